import PyProof.Rows.All
import Wide.All
import OpenK.AllK
import Wide.FinOn
import HandS.ForMost
import HandS.Wide
import HandS.IsInst
import HandS.TupAny
import HandS.TupLe
import HandS.TupMul
import HandS.SortInts
import HandS.Style
import HandS.NoneIn
import HandS.Zip
import PyProof.Rows.Digits
import PyProof.ReprRoads
import PyProof.Rows.StrOr
import HandS.Dict
import HandS.Conv
import HandS.TupSets
import HandS.Keys
import PyProof.StrLawsIn
import HandS.Star
import HandS.Defaults
import KE.KOpsOwn
import KE.KFmtOwn
import HandS.OwnEq
import HandS.Exc
import HandS.ExcInit
import HandS.ExcField
import HandS.ExcIs
import HandS.ExcOwn
import HandS.Lambda
import HandS.TryMany
import KE.KIntText
import PySem.Challenge.RW_hourforms_k56_dials_taken_back
set_option Elab.async false
set_option linter.all false
set_option maxRecDepth 100000
set_option maxHeartbeats 1000000
set_option autoImplicit false
/-! The data layer, part a: what a value stands for, what a slot holds, the relation of a frame. -/
namespace DL
open PySem L2

abbrev PD := PyData
def keyD : Key → PD
  | .inl i => .int i
  | .inr s => .str s
def tkeyD (k : List Key) : PD := .tuple (k.map keyD)

theorem seqT {K : PySem.W.Frag} {H H' : Hp} {a : Addr} {xs : List V} (e : Same H H') (h : SqT K H a xs) : SqT K H' a xs := by
  rcases h with (h | ⟨o, h⟩) | h
  · exact .inl (.inl (e _ _ h))
  · exact .inl (.inr ⟨o, e _ _ h⟩)
  · exact .inr h

theorem rdM {H H' : Hp} {a : Addr} {u : HO} (e : Same H H') (h : Rd H a u) : Rd H' a u := by
  rcases h with h | ⟨o, h⟩
  · exact .inl (e _ _ h)
  · exact .inr ⟨o, e _ _ h⟩
mutual
/-- the value v stands, in H, for the data d -/
inductive Df (K : PySem.W.Frag) (H : Hp) : V → PD → Prop
  | non : Df K H .non .none
  | bl (b : Bool) : Df K H (.bl b) (.bool b)
  | int (i : Int) : Df K H (.int i) (.int i)
  | str (x : Str) : Df K H (.str x) (.str x)
  | lst {a : Addr} {xs : List V} {ds : List PD} : Rd H a (.lst xs) → DfA K H xs ds → Df K H (.ref a) (.list ds)
  | tup {a : Addr} {xs : List V} {ds : List PD} : SqT K H a xs → DfA K H xs ds → Df K H (.ref a) (.tuple ds)
  | dk {a : Addr} {kvs : List (Key × V)} {es : List (PD × PD)} : Rd H a (.dK kvs) → DfK K H kvs es → Df K H (.ref a) (.dict es)
  | ins {a C dx : Addr} {fs : List (Str × V)} {es : List (PD × PD)} : H a = some (.ins C dx fs) → DfF K H fs es → Df K H (.ref a) (.dict ((.none, .int (C : Int)) :: es))
  /-- a caught error of the class at C without attributes -/
  | ex0 {a C : Addr} : Df K H (.ref a) (.dict [(.bool true, .int (C : Int)), (.bool true, .int (a : Int)), (.bool true, .none)])
  /-- .. its attributes at dd -/
  | ex1 {a C dd : Addr} {fs : List (Str × V)} {es : List (PD × PD)} : H dd = some (.xd fs) → DfF K H fs es → Df K H (.ref a) (.dict ((.bool true, .int (C : Int)) :: (.bool true, .int (a : Int)) :: (.bool true, .int (dd : Int)) :: es))
  /-- a locked dict -/
  | dkL {a : Addr} {o : Obj} {kvs : List (Key × V)} {es : List (PD × PD)} : H a = some (.frz o (.dK kvs)) → DfK K H kvs es → Df K H (.ref a) (.dict ((.bool false, .none) :: es))
  /-- a tuple that is a key of an own dict, or may be one -/
  | ky {a : Addr} {ks : List Key} : H a = some (.tup (ks.map kV)) → Df K H (.ref a) (.dict [(.bool false, .tuple (ks.map keyD))])
inductive DfA (K : PySem.W.Frag) (H : Hp) : List V → List PD → Prop
  | nil : DfA K H [] []
  | cons {v : V} {vs : List V} {d : PD} {ds : List PD} : Df K H v d → DfA K H vs ds → DfA K H (v :: vs) (d :: ds)
inductive DfK (K : PySem.W.Frag) (H : Hp) : List (Key × V) → List (PD × PD) → Prop
  | nil : DfK K H [] []
  | cons {k : Key} {v : V} {vs : List (Key × V)} {d : PD} {ds : List (PD × PD)} : Df K H v d → DfK K H vs ds → DfK K H ((k, v) :: vs) ((keyD k, d) :: ds)
inductive DfF (K : PySem.W.Frag) (H : Hp) : List (Str × V) → List (PD × PD) → Prop
  | nil : DfF K H [] []
  | cons {k : Str} {v : V} {vs : List (Str × V)} {d : PD} {ds : List (PD × PD)} : Df K H v d → DfF K H vs ds → DfF K H ((k, v) :: vs) ((.str k, d) :: ds)
end

section
variable {K : PySem.W.Frag} {H H' F F' : Hp} {v : V} {d : PD} {vs : List V} {ds : List PD}
theorem Df.mono (e : Same H H') (h : Df K H v d) : Df K H' v d :=
  Df.rec (motive_1 := fun v d _ => Df K H' v d) (motive_2 := fun vs ds _ => DfA K H' vs ds) (motive_3 := fun vs ds _ => DfK K H' vs ds) (motive_4 := fun vs ds _ => DfF K H' vs ds)
    .non .bl .int .str (fun h _ ih => .lst (rdM e h) ih) (fun h _ ih => .tup (seqT e h) ih) (fun h _ ih => .dk (rdM e h) ih) (fun h _ ih => .ins (e _ _ h) ih) .ex0 (fun h _ ih => .ex1 (e _ _ h) ih) (fun h _ ih => .dkL (e _ _ h) ih) (fun h => .ky (e _ _ h))
    .nil (fun _ _ a b => .cons a b) .nil (fun _ _ a b => .cons a b) .nil (fun _ _ a b => .cons a b) h
theorem DfA.mono (e : Same H H') (h : DfA K H vs ds) : DfA K H' vs ds := by
  induction vs generalizing ds with
  | nil => cases h; exact .nil
  | cons v vs ih =>
    cases h with
    | cons a b => exact .cons (a.mono e) (ih b)
theorem DfK.mono {vs : List (Key × V)} {ds : List (PD × PD)} (e : Same H H') (h : DfK K H vs ds) : DfK K H' vs ds := by
  induction vs generalizing ds with
  | nil => cases h; exact .nil
  | cons v vs ih =>
    cases h with
    | cons a b => exact .cons (a.mono e) (ih b)
theorem DfF.mono {vs : List (Str × V)} {ds : List (PD × PD)} (e : Same H H') (h : DfF K H vs ds) : DfF K H' vs ds := by
  induction vs generalizing ds with
  | nil => cases h; exact .nil
  | cons v vs ih =>
    cases h with
    | cons a b => exact .cons (a.mono e) (ih b)
theorem DfA.length (h : DfA K H vs ds) : vs.length = ds.length := by
  induction vs generalizing ds with
  | nil => cases h; rfl
  | cons v vs ih =>
    cases h with
    | cons a b => rw [List.length_cons, List.length_cons, ih b]
theorem DfA.append {us : List V} {es : List PD} (h : DfA K H vs ds) (g : DfA K H us es) : DfA K H (vs ++ us) (ds ++ es) := by
  induction vs generalizing ds with
  | nil => cases h; exact g
  | cons v vs ih =>
    cases h with
    | cons a b => exact .cons a (ih b)
theorem DfA.get {i : Nat} (h : DfA K H vs ds) (e : ds[i]? = some d) : ∃ v, vs[i]? = some v ∧ Df K H v d := by
  induction vs generalizing ds i with
  | nil => cases h; simp at e
  | cons v vs ih =>
    cases h with
    | cons a b =>
      cases i with
      | zero => simp at e; subst e; exact ⟨v, rfl, a⟩
      | succ i => simp at e; obtain ⟨u, h1, h2⟩ := ih b e; exact ⟨u, by simpa using h1, h2⟩
theorem DfA.get' {i : Nat} (h : DfA K H vs ds) (e : vs[i]? = some v) : ∃ d, ds[i]? = some d ∧ Df K H v d := by
  induction vs generalizing ds i with
  | nil => simp at e
  | cons u vs ih =>
    cases h with
    | cons a b =>
      cases i with
      | zero => simp at e; subst e; exact ⟨_, rfl, a⟩
      | succ i => simp at e; obtain ⟨u, h1, h2⟩ := ih b e; exact ⟨u, by simpa using h1, h2⟩
theorem DfA.take (n : Nat) (h : DfA K H vs ds) : DfA K H (vs.take n) (ds.take n) := by
  induction vs generalizing ds n with
  | nil => cases h; simp; exact .nil
  | cons v vs ih =>
    cases h with
    | cons a b =>
      cases n with
      | zero => exact .nil
      | succ n => exact .cons a (ih n b)
theorem DfA.drop (n : Nat) (h : DfA K H vs ds) : DfA K H (vs.drop n) (ds.drop n) := by
  induction vs generalizing ds n with
  | nil => cases h; simp; exact .nil
  | cons v vs ih =>
    cases h with
    | cons a b =>
      cases n with
      | zero => exact .cons a b
      | succ n => exact ih n b
theorem DfA.set (i : Nat) (h : DfA K H vs ds) (g : Df K H v d) : DfA K H (vs.set i v) (ds.set i d) := by
  induction vs generalizing ds i with
  | nil => cases h; exact .nil
  | cons v vs ih =>
    cases h with
    | cons a b =>
      cases i with
      | zero => exact .cons g b
      | succ i => exact .cons a (ih i b)
theorem DfA.snoc (h : DfA K H vs ds) (g : Df K H v d) : DfA K H (vs ++ [v]) (ds ++ [d]) := h.append (.cons g .nil)
theorem DfA.replicate (n : Nat) (g : DfA K H vs ds) : DfA K H (List.replicate n vs).flatten (List.replicate n ds).flatten := by
  induction n with
  | zero => exact .nil
  | succ n ih => rw [List.replicate_succ, List.replicate_succ, List.flatten_cons, List.flatten_cons]; exact g.append ih
theorem DfA.ints (ns : List Int) : DfA K H (ns.map V.int) (ns.map PyData.int) := by
  induction ns with
  | nil => exact .nil
  | cons n r ih => exact .cons (.int n) ih
end

/-! ### data without dicts and instances: the layer's own reading of data -/
mutual
def noDict : PD → Bool
  | .dict _ => false
  | .list xs => noDictA xs
  | .tuple xs => noDictA xs
  | _ => true
def noDictA : List PD → Bool
  | [] => true
  | x :: r => noDict x && noDictA r
end
section
variable {K : PySem.W.Frag} {H : Hp}
theorem Df.dp {v : V} {d : PD} (h : Df K H v d) : noDict d = true → Dp K H v d :=
  Df.rec (motive_1 := fun v d _ => noDict d = true → Dp K H v d) (motive_2 := fun vs ds _ => noDictA ds = true → DpAll K H vs ds) (motive_3 := fun _ _ _ => True) (motive_4 := fun _ _ _ => True)
    (fun _ => .non) (fun b _ => .bl b) (fun i _ => .int i) (fun x _ => .str x) (fun h _ ih e => .lst (.inl h) (ih (by simpa [noDict] using e))) (fun h _ ih e => .tup h (ih (by simpa [noDict] using e)))
    (fun _ _ _ e => by simp [noDict] at e) (fun _ _ _ e => by simp [noDict] at e) (fun e => by simp [noDict] at e) (fun _ _ _ e => by simp [noDict] at e) (fun _ _ _ e => by simp [noDict] at e) (fun _ e => by simp [noDict] at e)
    (fun _ => .nil) (fun _ _ a b e => by simp [noDictA] at e; exact .cons (a e.1) (b e.2)) trivial (fun _ _ _ _ => trivial) trivial (fun _ _ _ _ => trivial) h
end

/-! ### what a slot holds -/
/-- frozen data; an own list, an own dict (p: it is the caller's, handed in as the p-th of such) -/
inductive Lc where
  | d (x : PD)
  | ls (p : Option Nat) (xs : List PD)
  | dk (p : Option Nat) (kvs : List (Key × PD))
  | dt (p : Option Nat) (kvs : List (List Key × PD))
  /-- an own instance of the class at C, its attributes -/
  | ob (p : Option Nat) (C : Addr) (fs : List (Str × PD))
  /-- a list that is only read: the script -/
  | sc (xs : List PD)
  /-- an own instance of the class at C: attributes that are data, and behind them own lists of its own, each with its address -/
  | nb (p : Option Nat) (C : Addr) (fs : List (Str × PD)) (ns : List (Str × Addr × List PD))
  /-- an own list of own lists of its own, each with its address -/
  | ln (p : Option Nat) (xs : List (Addr × List PD))
/-- the own lists that lie in an own thing -/
def Lc.fp : Lc → List (Addr × List PD)
  | .nb _ _ _ ns => ns.map (·.2)
  | .ln _ xs => xs
  | _ => []
abbrev En := List (Option Lc)
def Lc.own : Lc → Bool
  | .ls _ _ => true
  | .dk _ _ => true
  | .dt _ _ => true
  | .ob _ _ _ => true
  | .nb _ _ _ _ => true
  | .ln _ _ => true
  | _ => false
def Lc.tag : Lc → Option Nat
  | .ls p _ => p
  | .dk p _ => p
  | .dt p _ => p
  | .ob p _ _ => p
  | .nb p _ _ _ => p
  | .ln p _ => p
  | _ => none
def Lc.retag (q : Option Nat) : Lc → Lc
  | .ls _ xs => .ls q xs
  | .dk _ xs => .dk q xs
  | .dt _ xs => .dt q xs
  | .ob _ C fs => .ob q C fs
  | .nb _ C fs ns => .nb q C fs ns
  | .ln _ xs => .ln q xs
  | l => l
theorem Lc.retag_fp (q : Option Nat) (l : Lc) : (l.retag q).fp = l.fp := by cases l <;> rfl
/-- the own list under a name -/
def getN (f : Str) : List (Str × Addr × List PD) → Option (Addr × List PD)
  | [] => none
  | (g, z) :: r => if g = f then some z else getN f r
/-- no attribute of data has this name -/
def noF (f : Str) : List (Str × PD) → Bool
  | [] => true
  | (g, _) :: r => !(decide (g = f)) && noF f r
def putN (f : Str) (y : Addr × List PD) : List (Str × Addr × List PD) → List (Str × Addr × List PD)
  | [] => [(f, y)]
  | (g, z) :: r => if g = f then (f, y) :: r else (g, z) :: putN f y r
theorem getN_mem {f : Str} {y : Addr × List PD} : ∀ {ns : List (Str × Addr × List PD)}, getN f ns = some y → (f, y) ∈ ns
  | (g, z) :: r, h => by
    unfold getN at h
    by_cases e : g = f
    · rw [if_pos e] at h; cases h; rw [e]; exact List.mem_cons_self
    · rw [if_neg e] at h; exact List.mem_cons_of_mem _ (getN_mem h)
theorem putN_mem {f : Str} {y : Addr × List PD} : ∀ {ns : List (Str × Addr × List PD)} {q : Str × Addr × List PD}, q ∈ putN f y ns → q = (f, y) ∨ q ∈ ns
  | [], q, h => by
    have h : q ∈ [(f, y)] := h
    exact .inl (List.mem_singleton.mp h)
  | (g, z) :: r, q, h => by
    unfold putN at h
    by_cases e : g = f
    · rw [if_pos e] at h
      rcases List.mem_cons.mp h with h | h
      · exact .inl h
      · exact .inr (List.mem_cons_of_mem _ h)
    · rw [if_neg e] at h
      rcases List.mem_cons.mp h with h | h
      · exact .inr (by rw [h]; exact List.mem_cons_self)
      · rcases putN_mem h with h | h
        · exact .inl h
        · exact .inr (List.mem_cons_of_mem _ h)
theorem putN_same {f : Str} {b : Addr} {xs ys : List PD} : ∀ {ns : List (Str × Addr × List PD)}, getN f ns = some (b, xs) → (putN f (b, ys) ns).map (fun n => (n.1, n.2.1)) = ns.map fun n => (n.1, n.2.1)
  | (g, z) :: r, h => by
    unfold getN at h
    unfold putN
    by_cases e : g = f
    · rw [if_pos e] at h; cases h; rw [if_pos e, List.map_cons, List.map_cons, e]
    · rw [if_neg e] at h; rw [if_neg e, List.map_cons, List.map_cons, putN_same h]
theorem Lc.retag_own (q : Option Nat) (l : Lc) : (l.retag q).own = l.own := by cases l <;> rfl
theorem Lc.retag_tag (q : Option Nat) (l : Lc) (h : l.own = true) : (l.retag q).tag = q := by cases l <;> first | rfl | (simp [Lc.own] at h)

/-- the parts of a def's run that stay: the heap and the frozen part at its entry, the lists that it may change -/
structure Gm where
  H0 : Hp
  F0 : Hp
  io : List Addr
  nio : List (Nat × Addr) := []

/-- a fresh thing that no slot holds is kept apart while other things are done -/
def Gm.pin (G : Gm) (p : Addr) (o : HO) : Gm := { G with H0 := fun b => if b = p then some o else G.H0 b }
/-- from which entry the frames of a walk come -/
class Pn where
  P : Gm → Prop
  pin : ∀ {G : Gm} {p : Addr} {o : HO}, P G → G.H0 p = none → G.F0 p = none → p ∉ G.io → (∀ us, o ≠ .tup us) → P (G.pin p o)
/-- .. from any -/
def Pn.any : Pn := ⟨fun _ => True, fun _ _ _ _ _ => trivial⟩
inductive Pins (G0 : Gm) : Gm → Prop
  | refl : Pins G0 G0
  | pin {G : Gm} {p : Addr} {o : HO} : Pins G0 G → G.H0 p = none → G.F0 p = none → p ∉ G.io → (∀ us, o ≠ .tup us) → Pins G0 (G.pin p o)
/-- .. from this one -/
def Pn.at_ (G0 : Gm) : Pn := ⟨Pins G0, .pin⟩
def DKv {κ : Type} (K : PySem.W.Frag) (F : Hp) : List (κ × V) → List (κ × PD) → Prop := Paired fun p q => p.1 = q.1 ∧ Df K F p.2 q.2
/-- the object of an own thing -/
def HoOk (K : PySem.W.Frag) (F : Hp) : Lc → HO → Prop
  | .ls _ xs, .lst vs => DfA K F vs xs
  | .dk _ kvs, .dK us => DKv K F us kvs
  | .dt _ kvs, .dT us => DKv K F us kvs
  | .ob _ C fs, .ins D _ us => C = D ∧ DKv K F us fs
  | .nb _ C fs ns, .ins D _ us => C = D ∧ (∃ u1, us = u1 ++ ns.map (fun n => (n.1, V.ref n.2.1)) ∧ DKv K F u1 fs) ∧ (ns.map (·.2.1)).Nodup
  | .ln _ xs, .lst vs => vs = xs.map (fun x => V.ref x.1) ∧ (xs.map (·.1)).Nodup
  | _, _ => False
theorem DKv.mono {κ : Type} {K : PySem.W.Frag} {F F' : Hp} (e : Same F F') {us : List (κ × V)} {kvs : List (κ × PD)} (h : DKv K F us kvs) : DKv K F' us kvs :=
  Paired.mapP h fun _ _ z => ⟨z.1, z.2.mono e⟩
theorem HoOk.mono {K : PySem.W.Frag} {F F' : Hp} {l : Lc} {o : HO} (e : Same F F') (h : HoOk K F l o) : HoOk K F' l o := by
  cases l <;> cases o <;> first | exact False.elim h | exact DfA.mono e h | exact DKv.mono e h | exact ⟨h.1, DKv.mono e h.2⟩ | exact ⟨h.1, ⟨h.2.1.choose, h.2.1.choose_spec.1, DKv.mono e h.2.1.choose_spec.2⟩, h.2.2⟩ | exact h
theorem HoOk.retag {K : PySem.W.Frag} {F : Hp} {l : Lc} {o : HO} (q : Option Nat) (h : HoOk K F l o) : HoOk K F (l.retag q) o := by
  cases l <;> cases o <;> first | exact False.elim h | exact h
theorem HoOk.own {K : PySem.W.Frag} {F : Hp} {l : Lc} {o : HO} (h : HoOk K F l o) : l.own = true := by
  cases l <;> cases o <;> first | exact False.elim h | rfl
def OwnP (G : Gm) : Option Nat → Addr → Prop
  | none, a => G.H0 a = none
  | some i, a => G.io[i]? = some a
/-- an own thing stands at a -/
structure At (K : PySem.W.Frag) (G : Gm) (F H : Hp) (l : Lc) (a : Addr) : Prop where
  nf : F a = none
  ow : OwnP G l.tag a
  ob : ∃ o, H a = some o ∧ HoOk K F l o
/-- a list that is read alone -/
def ScOk (K : PySem.W.Frag) (F : Hp) (xs : List PD) (v : V) : Prop := ∃ a vs, v = .ref a ∧ SqL K F a vs ∧ DfA K F vs xs
theorem ScOk.mono {K : PySem.W.Frag} {F F' : Hp} {xs : List PD} {v : V} (e : Same F F') (h : ScOk K F xs v) : ScOk K F' xs v := by
  obtain ⟨a, vs, h1, h2, h3⟩ := h
  exact ⟨a, vs, h1, e.seq h2, h3.mono e⟩
def SlotOk (K : PySem.W.Frag) (G : Gm) (F H : Hp) : Lc → Option (Option V) → Prop
  | .d x, s => ∃ v, s = some (some v) ∧ Df K F v x
  | .sc xs, s => ∃ v, s = some (some v) ∧ ScOk K F xs v
  | l, s => ∃ a, s = some (some (.ref a)) ∧ At K G F H l a

/-- an own list that lies in an own thing -/
structure Ns (K : PySem.W.Frag) (G : Gm) (F H : Hp) (t : Option Nat) (b : Addr) (xs : List PD) : Prop where
  nf : F b = none
  ow : G.H0 b = none ∨ ∃ k, t = some k ∧ (k, b) ∈ G.nio ∧ b ∈ G.io
  ob : ∃ vs, H b = some (.lst vs) ∧ DfA K F vs xs
/-- no slot's thing has it within -/
def NoN (ρ : En) (p : Addr) : Prop := ∀ (j : Nat) (m : Lc) (ys : List PD), ρ[j]? = some (some m) → (p, ys) ∉ m.fp
/-- no own slot holds it -/
def NoS (ρ : En) (σ : L2.St) (p : Addr) : Prop := ∀ (j : Nat) (m : Lc), ρ[j]? = some (some m) → m.own = true → σ[j]? ≠ some (some (.ref p))
/-- the frame: ρ says what the slots σ hold over the heap H, F the frozen part of it -/
structure Rel [Pn] (K : PySem.W.Frag) (G : Gm) (ρ : En) (F : Hp) (σ : L2.St) (H : Hp) : Prop where
  fh : Same F H
  ff : Same G.F0 F
  fr : ∀ b o, G.H0 b = some o → b ∉ G.io → H b = some o
  nw : ∀ b, F b ≠ none → G.F0 b = none → G.H0 b = none ∨ ∃ us, F b = some (.tup us)
  ih : ∀ a, a ∈ G.io → H a ≠ none ∧ G.H0 a ≠ none
  len : σ.length = ρ.length
  sl : ∀ (i : Nat) (l : Lc), ρ[i]? = some (some l) → SlotOk K G F H l σ[i]?
  ds : ∀ (i j : Nat) (l m : Lc) (v : V), ρ[i]? = some (some l) → ρ[j]? = some (some m) → l.own = true → m.own = true → σ[i]? = some (some v) → σ[j]? = some (some v) → i = j
  ok : Pn.P G
  ns : ∀ (i : Nat) (l : Lc) (b : Addr) (xs : List PD), ρ[i]? = some (some l) → (b, xs) ∈ l.fp → Ns K G F H l.tag b xs ∧ ∀ (j : Nat) (m : Lc), ρ[j]? = some (some m) → (m.own = true → σ[j]? ≠ some (some (.ref b))) ∧ ∀ ys, (b, ys) ∈ m.fp → j = i

/-- both heaps grow, old things stay -/
structure Grow (F H F' H' : Hp) : Prop where
  ff : Same F F'
  hh : Same H H'
  fh : Same F' H'
  nw : ∀ b, F' b ≠ none → F b = none → H b = none ∨ ∃ us, F' b = some (.tup us)
section
variable {K : PySem.W.Frag} {G : Gm} {ρ : En} {F F' H H' F1 H1 : Hp} {σ : L2.St} {i j : Nat} {l m : Lc} {a p : Addr} {v : V} {x : PD} {o : HO}
theorem Grow.refl (h : Same F H) : Grow F H F H := ⟨Same.refl _, Same.refl _, h, fun b h1 h2 => absurd h2 h1⟩
theorem Grow.trans (g : Grow F H F1 H1) (k : Grow F1 H1 F' H') : Grow F H F' H' := by
  refine ⟨g.ff.trans k.ff, g.hh.trans k.hh, k.fh, fun b h1 h2 => ?_⟩
  cases e : F1 b with
  | none =>
    rcases k.nw b h1 e with z | z
    · exact .inl (g.hh.free z)
    · exact .inr z
  | some u =>
    rcases g.nw b (by rw [e]; simp) h2 with z | ⟨us, z⟩
    · exact .inl z
    · exact .inr ⟨us, k.ff _ _ z⟩
theorem same_new (h : H p = none) (o : HO) : Same H (upd H p o) := fun b u q => by rw [upd_ne (ne_of_none q h)]; exact q
/-- a new object, frozen at once -/
theorem Grow.frozen (h : Same F H) (hp : H p = none) (o : HO) : Grow F H (upd F p o) (upd H p o) := by
  refine ⟨same_new (h.free hp) o, same_new hp o, fun b u e => ?_, fun b h1 h2 => ?_⟩
  · by_cases hb : b = p
    · subst hb; rw [upd_same] at e ⊢; exact e
    · rw [upd_ne hb] at e ⊢; exact h _ _ e
  · by_cases hb : b = p
    · subst hb; exact .inl hp
    · rw [upd_ne hb] at h1; exact absurd h2 h1
/-- a new object, owned -/
theorem Grow.owned (h : Same F H) (hp : H p = none) (o : HO) : Grow F H F (upd H p o) :=
  ⟨Same.refl _, same_new hp o, h.trans (same_new hp o), fun b h1 h2 => absurd h2 h1⟩
theorem own_slot (h : l.own = true) {s : Option (Option V)} : SlotOk K G F H l s ↔ ∃ a, s = some (some (.ref a)) ∧ At K G F H l a := by
  cases l <;> first | exact Iff.rfl | (simp [Lc.own] at h)
theorem not_own (h : l.own = false) : (∃ x, l = .d x) ∨ ∃ x, l = .sc x := by
  cases l with
  | d x => exact .inl ⟨x, rfl⟩
  | sc v => exact .inr ⟨v, rfl⟩
  | ls p xs => simp [Lc.own] at h
  | dk p xs => simp [Lc.own] at h
  | dt p xs => simp [Lc.own] at h
  | ob p C fs => simp [Lc.own] at h
  | nb p C fs ns => simp [Lc.own] at h
  | ln p xs => simp [Lc.own] at h
theorem Lc.fp_own (h : l.own = false) : l.fp = [] := by cases l <;> first | rfl | (simp [Lc.own] at h)
theorem SlotOk.some {s : Option (Option V)} (h : SlotOk K G F H l s) : ∃ v, s = some (some v) := by
  cases l with
  | d x => obtain ⟨v, e, _⟩ := h; exact ⟨v, e⟩
  | sc xs => obtain ⟨v, e, _⟩ := h; exact ⟨v, e⟩
  | ls p xs => obtain ⟨a, e, _⟩ := h; exact ⟨_, e⟩
  | dk p xs => obtain ⟨a, e, _⟩ := h; exact ⟨_, e⟩
  | dt p xs => obtain ⟨a, e, _⟩ := h; exact ⟨_, e⟩
  | ob p C fs => obtain ⟨a, e, _⟩ := h; exact ⟨_, e⟩
  | nb p C fs ns => obtain ⟨a, e, _⟩ := h; exact ⟨_, e⟩
  | ln p xs => obtain ⟨a, e, _⟩ := h; exact ⟨_, e⟩
theorem At.grow (h : At K G F H l a) (g : Grow F H F' H') : At K G F' H' l a := by
  obtain ⟨nf, ow, ob, e, ok⟩ := h
  refine ⟨?_, ow, ob, g.hh _ _ e, ok.mono g.ff⟩
  cases q : F' a with
  | none => rfl
  | some u =>
    rcases g.nw a (by rw [q]; simp) nf with z | ⟨us, z⟩
    · rw [e] at z; cases z
    · have z := g.fh _ _ z
      rw [g.hh _ _ e] at z
      cases z
      cases l <;> exact False.elim ok
theorem Ns.grow {t : Option Nat} {b : Addr} {xs : List PD} (h : Ns K G F H t b xs) (g : Grow F H F' H') : Ns K G F' H' t b xs := by
  obtain ⟨nf, ow, vs, e, ok⟩ := h
  refine ⟨?_, ow, vs, g.hh _ _ e, ok.mono g.ff⟩
  cases q : F' b with
  | none => rfl
  | some u =>
    rcases g.nw b (by rw [q]; simp) nf with z | ⟨us, z⟩
    · rw [e] at z; cases z
    · have z := g.fh _ _ z
      rw [g.hh _ _ e] at z
      cases z
theorem SlotOk.grow {s : Option (Option V)} (h : SlotOk K G F H l s) (g : Grow F H F' H') : SlotOk K G F' H' l s := by
  cases hl : l.own with
  | true => rw [own_slot hl] at h ⊢; obtain ⟨a, e, z⟩ := h; exact ⟨a, e, z.grow g⟩
  | false =>
    rcases not_own hl with ⟨x, rfl⟩ | ⟨v, rfl⟩
    · obtain ⟨v, e, z⟩ := h; exact ⟨v, e, z.mono g.ff⟩
    · obtain ⟨v, e, z⟩ := h; exact ⟨v, e, z.mono g.ff⟩
theorem Rel.h0 [Pn] (R : Rel K G ρ F σ H) (h : H p = none) : G.H0 p = none := by
  cases e : G.H0 p with
  | none => rfl
  | some u =>
    by_cases hp : p ∈ G.io
    · exact absurd h (R.ih p hp).1
    · have := R.fr p u e hp; rw [h] at this; cases this
theorem Rel.grow [Pn] (R : Rel K G ρ F σ H) (g : Grow F H F' H') : Rel K G ρ F' σ H' := by
  refine ⟨g.fh, R.ff.trans g.ff, fun b o e hb => g.hh _ _ (R.fr b o e hb), fun b h1 h2 => ?_, fun a ha => ?_, R.len, fun i l e => (R.sl i l e).grow g, R.ds, R.ok, fun i l b xs e h => ⟨(R.ns i l b xs e h).1.grow g, (R.ns i l b xs e h).2⟩⟩
  · cases e : F b with
    | none =>
      rcases g.nw b h1 e with z | z
      · exact .inl (R.h0 z)
      · exact .inr z
    | some u =>
      rcases R.nw b (by rw [e]; simp) h2 with z | ⟨us, z⟩
      · exact .inl z
      · exact .inr ⟨us, g.ff _ _ z⟩
  · refine ⟨?_, (R.ih a ha).2⟩
    cases e : H a with
    | none => exact absurd e (R.ih a ha).1
    | some u => rw [g.hh _ _ e]; simp
theorem set_get {α : Type} {xs : List α} {i j : Nat} {y z : α} (h : (xs.set i y)[j]? = some z) : (j = i ∧ i < xs.length ∧ z = y) ∨ (j ≠ i ∧ xs[j]? = some z) := by
  by_cases hj : j = i
  · subst hj
    by_cases hl : j < xs.length
    · rw [List.getElem?_set_self hl] at h; cases h; exact .inl ⟨rfl, hl, rfl⟩
    · rw [List.getElem?_eq_none (by rw [List.length_set]; omega)] at h; cases h
  · rw [List.getElem?_set_ne (Ne.symm hj)] at h; exact .inr ⟨hj, h⟩
/-- the own lists in a thing that no slot holds yet -/
def NsR (K : PySem.W.Frag) (G : Gm) (F H : Hp) (ρ : En) (σ : L2.St) (l : Lc) (v : V) : Prop := ∀ (b : Addr) (xs : List PD), (b, xs) ∈ l.fp → Ns K G F H l.tag b xs ∧ v ≠ .ref b ∧ NoS ρ σ b ∧ NoN ρ b
theorem NsR.nil {v : V} (h : l.fp = []) : NsR K G F H ρ σ l v := fun b xs z => by rw [h] at z; cases z
/-- a slot is stored -/
theorem Rel.store [Pn] (R : Rel K G ρ F σ H) (i : Nat) (h : SlotOk K G F H l (some (some v))) (hf : l.own = true → ∀ (j : Nat) (m : Lc), ρ[j]? = some (some m) → m.own = true → σ[j]? ≠ some (some v)) (hn : l.own = true → (∀ a, v = .ref a → NoN ρ a) ∧ NsR K G F H ρ σ l v) :
    Rel K G (ρ.set i (some l)) F (σ.set i (some v)) H := by
  have hfp : ∀ b xs, (b, xs) ∈ l.fp → l.own = true := fun b xs z => by
    cases ho : l.own with
    | true => rfl
    | false => rw [Lc.fp_own ho] at z; cases z
  refine ⟨R.fh, R.ff, R.fr, R.nw, R.ih, by rw [List.length_set, List.length_set]; exact R.len, fun j m e => ?_, fun j k m n u e1 e2 h1 h2 e3 e4 => ?_, R.ok, fun j m b xs e hb => ?_⟩
  · rcases set_get e with ⟨rfl, hl, z⟩ | ⟨hj, e⟩
    · cases z; rw [List.getElem?_set_self (by rw [R.len]; exact hl)]; exact h
    · rw [List.getElem?_set_ne (Ne.symm hj)]; exact R.sl j m e
  · rcases set_get e1 with ⟨rfl, hl, z⟩ | ⟨hj, e1'⟩
    · rcases set_get e2 with ⟨rfl, hl', z'⟩ | ⟨hk, e2'⟩
      · rfl
      · cases z
        rw [List.getElem?_set_self (by rw [R.len]; exact hl)] at e3
        rw [List.getElem?_set_ne (Ne.symm hk)] at e4
        have : v = u := by simpa using e3
        subst this
        exact absurd e4 (hf h1 k n e2' h2)
    · rcases set_get e2 with ⟨rfl, hl', z'⟩ | ⟨hk, e2'⟩
      · cases z'
        rw [List.getElem?_set_self (by rw [R.len]; exact hl')] at e4
        rw [List.getElem?_set_ne (Ne.symm hj)] at e3
        have : v = u := by simpa using e4
        subst this
        exact absurd e3 (hf h2 j m e1' h1)
      · rw [List.getElem?_set_ne (Ne.symm hj)] at e3
        rw [List.getElem?_set_ne (Ne.symm hk)] at e4
        exact R.ds j k m n u e1' e2' h1 h2 e3 e4
  · rcases set_get e with ⟨rfl, hl, z⟩ | ⟨hj, eo⟩
    · cases z
      obtain ⟨n1, n2, n3, n4⟩ := (hn (hfp b xs hb)).2 b xs hb
      refine ⟨n1, fun k n e2 => ?_⟩
      rcases set_get e2 with ⟨rfl, hl', z'⟩ | ⟨hk, e2'⟩
      · cases z'
        rw [List.getElem?_set_self (by rw [R.len]; exact hl)]
        exact ⟨fun _ q => n2 (by simpa using q), fun _ _ => rfl⟩
      · rw [List.getElem?_set_ne (Ne.symm hk)]
        exact ⟨n3 k n e2', fun ys q => absurd q (n4 k n ys e2')⟩
    · obtain ⟨n1, n2⟩ := R.ns j m b xs eo hb
      refine ⟨n1, fun k n e2 => ?_⟩
      rcases set_get e2 with ⟨rfl, hl', z'⟩ | ⟨hk, e2'⟩
      · cases z'
        rw [List.getElem?_set_self (by rw [R.len]; exact hl')]
        refine ⟨fun ho q => ?_, fun ys q => ?_⟩
        · have q : v = .ref b := by simpa using q
          exact (hn ho).1 b q j m xs eo hb
        · exact absurd hb (((hn (hfp b ys q)).2 b ys q).2.2.2 j m xs eo)
      · rw [List.getElem?_set_ne (Ne.symm hk)]
        exact n2 k n e2'
theorem Rel.store_d [Pn] (R : Rel K G ρ F σ H) (i : Nat) (h : Df K F v x) : Rel K G (ρ.set i (some (.d x))) F (σ.set i (some v)) H :=
  R.store i ⟨v, rfl, h⟩ (fun z => by cases z) fun z => by cases z
/-- slots forgotten on either side -/
theorem Rel.weak [Pn] (R : Rel K G ρ F σ H) {ρ' : En} {σ' : L2.St} (hl : σ'.length = ρ'.length) (w : ∀ (i : Nat) (l : Lc), ρ'[i]? = some (some l) → ρ[i]? = some (some l) ∧ σ'[i]? = σ[i]?) : Rel K G ρ' F σ' H := by
  refine ⟨R.fh, R.ff, R.fr, R.nw, R.ih, hl, fun i l e => ?_, fun i j l m v e1 e2 h1 h2 e3 e4 => ?_, R.ok, fun i l b xs e hb => ⟨(R.ns i l b xs (w i l e).1 hb).1, fun j m e2 => by rw [(w j m e2).2]; exact (R.ns i l b xs (w i l e).1 hb).2 j m (w j m e2).1⟩⟩
  · obtain ⟨a, b⟩ := w i l e; rw [b]; exact R.sl i l a
  · obtain ⟨a, b⟩ := w i l e1
    obtain ⟨a', b'⟩ := w j m e2
    rw [b] at e3; rw [b'] at e4
    exact R.ds i j l m v a a' h1 h2 e3 e4
theorem Rel.drop [Pn] (R : Rel K G ρ F σ H) (i : Nat) : Rel K G (ρ.set i none) F σ H := by
  refine R.weak (by rw [List.length_set]; exact R.len) fun j l e => ?_
  rcases set_get e with ⟨_, _, z⟩ | ⟨_, e⟩
  · cases z
  · exact ⟨e, rfl⟩
/-- what stands in an own slot -/
theorem Rel.at_ [Pn] (R : Rel K G ρ F σ H) (e : ρ[i]? = some (some l)) (h : l.own = true) : ∃ a, σ[i]? = some (some (.ref a)) ∧ At K G F H l a := (own_slot h).mp (R.sl i l e)
theorem Rel.noN_free [Pn] (R : Rel K G ρ F σ H) (h : H p = none) : NoN ρ p := fun j m ys e z => by
  obtain ⟨vs, e1, _⟩ := (R.ns j m p ys e z).1.ob
  rw [h] at e1; cases e1
theorem Rel.noS_free [Pn] (R : Rel K G ρ F σ H) (h : H p = none) : NoS ρ σ p := fun j m e hm z => by
  obtain ⟨a, e1, _, _, ob, eo, _⟩ := R.at_ e hm
  rw [z] at e1
  have : p = a := by simpa using e1
  subst this
  rw [h] at eo; cases eo
theorem Rel.noN_at [Pn] (R : Rel K G ρ F σ H) (e : ρ[i]? = some (some l)) (ho : l.own = true) (es : σ[i]? = some (some (.ref a))) : NoN ρ a := fun j m ys q z => ((R.ns j m a ys q z).2 i l e).1 ho es
theorem NoN.sub {ρ' : En} (h : NoN ρ p) (w : ∀ (j : Nat) (m : Lc), ρ'[j]? = some (some m) → ρ[j]? = some (some m)) : NoN ρ' p := fun j m ys e => h j m ys (w j m e)
theorem NoN.drop (h : NoN ρ p) (i : Nat) : NoN (ρ.set i none) p := h.sub fun j m e => by
  rcases set_get e with ⟨_, _, z⟩ | ⟨_, e⟩
  · cases z
  · exact e
theorem At.pin (h : At K G F H l a) (hp : a ≠ p) (o : HO) : At K (G.pin p o) F H l a := by
  refine ⟨h.nf, ?_, h.ob⟩
  have ow := h.ow
  cases e : l.tag with
  | none =>
    rw [e] at ow
    show (if a = p then some o else G.H0 a) = none
    rw [if_neg hp]; exact ow
  | some k => rw [e] at ow; exact ow
theorem Rel.pin [Pn] (R : Rel K G ρ F σ H) (hF : F p = none) (hH : H p = some o) (h0 : G.H0 p = none) (hf : ∀ (j : Nat) (m : Lc), ρ[j]? = some (some m) → m.own = true → σ[j]? ≠ some (some (.ref p))) (hn : NoN ρ p) (no : ∀ us, o ≠ .tup us := by intro _ h; cases h) : Rel K (G.pin p o) ρ F σ H := by
  refine ⟨R.fh, R.ff, fun b u e hb => ?_, fun b h1 h2 => ?_, fun a ha => ⟨(R.ih a ha).1, ?_⟩, R.len, fun i l e => ?_, R.ds, Pn.pin R.ok h0 (R.ff.free hF) (fun z => (R.ih p z).2 h0) no, fun i l b xs e hb => ⟨⟨(R.ns i l b xs e hb).1.nf, ?_, (R.ns i l b xs e hb).1.ob⟩, (R.ns i l b xs e hb).2⟩⟩
  · have e : (if b = p then some o else G.H0 b) = some u := e
    by_cases hbp : b = p
    · subst hbp; rw [if_pos rfl] at e; cases e; exact hH
    · rw [if_neg hbp] at e; exact R.fr b u e hb
  · show (if b = p then some o else G.H0 b) = none ∨ _
    have hbp : b ≠ p := fun z => h1 (by rw [z]; exact hF)
    rw [if_neg hbp]; exact R.nw b h1 h2
  · show (if a = p then some o else G.H0 a) ≠ none
    have := (R.ih a ha).2
    by_cases hap : a = p
    · rw [if_pos hap]; simp
    · rw [if_neg hap]; exact this
  · have z := R.sl i l e
    cases hl : l.own with
    | true =>
      rw [own_slot hl] at z ⊢
      obtain ⟨c, e1, z⟩ := z
      exact ⟨c, e1, z.pin (fun q => hf i l e hl (by rw [e1, q])) o⟩
    | false =>
      rcases not_own hl with ⟨x, rfl⟩ | ⟨v, rfl⟩
      · exact z
      · exact z
  · show (if b = p then some o else G.H0 b) = none ∨ ∃ k, l.tag = some k ∧ (k, b) ∈ G.nio ∧ b ∈ G.io
    have hbp : b ≠ p := fun z => hn i l xs e (by rw [← z]; exact hb)
    rw [if_neg hbp]; exact (R.ns i l b xs e hb).1.ow
theorem Rel.unpinN [Pn] (R : Rel K (G.pin p o) ρ F σ H) (hio : p ∉ G.io) : NoN ρ p := fun j m ys e z => by
  rcases (R.ns j m p ys e z).1.ow with w | w
  · have w : (if p = p then some o else G.H0 p) = none := w
    rw [if_pos rfl] at w; cases w
  · obtain ⟨_, _, _, w⟩ := w; exact hio w
theorem Rel.unpin [Pn] (ok : Pn.P G) (R : Rel K (G.pin p o) ρ F σ H) (h0 : G.H0 p = none) (f0 : G.F0 p = none) (hio : p ∉ G.io) (no : ∀ us, o ≠ .tup us := by intro _ h; cases h) :
    Rel K G ρ F σ H ∧ F p = none ∧ H p = some o ∧ ∀ (j : Nat) (m : Lc), ρ[j]? = some (some m) → m.own = true → σ[j]? ≠ some (some (.ref p)) := by
  have hp : (G.pin p o).H0 p = some o := if_pos rfl
  have nt : ∀ {l : Lc} {a : Addr}, At K (G.pin p o) F H l a → a ≠ p := fun {l a} z q => by
    subst q
    have ow := z.ow
    cases e : l.tag with
    | none => rw [e] at ow; have ow : (G.pin a o).H0 a = none := ow; rw [hp] at ow; cases ow
    | some k => rw [e] at ow; exact hio (List.mem_of_getElem? ow)
  have ne : ∀ (j : Nat) (m : Lc), ρ[j]? = some (some m) → m.own = true → σ[j]? ≠ some (some (.ref p)) := fun j m e hm z => by
    obtain ⟨a, e1, q⟩ := R.at_ e hm
    rw [z] at e1
    have : p = a := by simpa using e1
    exact nt q this.symm
  have fp : F p = none := by
    cases e : F p with
    | none => rfl
    | some u =>
      rcases R.nw p (by rw [e]; simp) f0 with z | ⟨us, z⟩
      · rw [hp] at z; cases z
      · have z := R.fh _ _ z
        rw [R.fr p o hp hio] at z
        cases z
        exact absurd rfl (no us)
  refine ⟨⟨R.fh, R.ff, fun b u e hb => ?_, fun b h1 h2 => ?_, fun a ha => ⟨(R.ih a ha).1, ?_⟩, R.len, fun i l e => ?_, R.ds, ok, fun i l b xs e hb => ⟨⟨(R.ns i l b xs e hb).1.nf, ?_, (R.ns i l b xs e hb).1.ob⟩, (R.ns i l b xs e hb).2⟩⟩, fp, R.fr p o hp hio, ne⟩
  · refine R.fr b u ?_ hb
    show (if b = p then some o else G.H0 b) = some u
    rw [if_neg (fun z => by rw [z, h0] at e; cases e)]; exact e
  · rcases R.nw b h1 h2 with this | this
    · have this : (if b = p then some o else G.H0 b) = none := this
      by_cases hbp : b = p
      · rw [hbp]; exact .inl h0
      · rw [if_neg hbp] at this; exact .inl this
    · exact .inr this
  · have := (R.ih a ha).2
    have this : (if a = p then some o else G.H0 a) ≠ none := this
    have hap : a ≠ p := fun z => hio (by rw [← z]; exact ha)
    rw [if_neg hap] at this; exact this
  · have z := R.sl i l e
    cases hl : l.own with
    | true =>
      rw [own_slot hl] at z ⊢
      obtain ⟨c, e1, z⟩ := z
      have hc := nt z
      refine ⟨c, e1, z.nf, ?_, z.ob⟩
      have ow := z.ow
      cases q : l.tag with
      | none =>
        rw [q] at ow
        have ow : (if c = p then some o else G.H0 c) = none := ow
        rw [if_neg hc] at ow; exact ow
      | some k => rw [q] at ow; exact ow
    | false =>
      rcases not_own hl with ⟨x, rfl⟩ | ⟨v, rfl⟩
      · exact z
      · exact z
  · have hbp : b ≠ p := fun z => R.unpinN hio i l xs e (by rw [← z]; exact hb)
    rcases (R.ns i l b xs e hb).1.ow with w | w
    · have w : (if b = p then some o else G.H0 b) = none := w
      rw [if_neg hbp] at w; exact .inl w
    · exact .inr w
theorem HoOk.fp_nodup (ok : HoOk K F l o) : (l.fp.map (·.1)).Nodup := by
  cases l <;> first | exact List.nodup_nil | skip
  · cases o <;> first | exact False.elim ok | skip
    have := ok.2.2
    show ((List.map _ _).map _).Nodup
    rw [List.map_map]; exact this
  · cases o <;> first | exact False.elim ok | exact ok.2
/-! many are kept apart at once -/
def Gm.pins (G : Gm) : List (Addr × HO) → Gm
  | [] => G
  | p :: r => (G.pin p.1 p.2).pins r
theorem Gm.pin_ne {q : Addr} (h : q ≠ p) : (G.pin p o).H0 q = G.H0 q := if_neg h
theorem Rel.pins [Pn] : ∀ {L : List (Addr × HO)} {G : Gm}, (L.map (·.1)).Nodup → (∀ q ∈ L, F q.1 = none ∧ H q.1 = some q.2 ∧ G.H0 q.1 = none ∧ NoS ρ σ q.1 ∧ NoN ρ q.1 ∧ ∀ us, q.2 ≠ .tup us) → Rel K G ρ F σ H → Rel K (G.pins L) ρ F σ H
  | [], G, _, _, R => R
  | q :: r, G, nd, h, R => by
    rw [List.map_cons, List.nodup_cons] at nd
    obtain ⟨h1, h2, h3, h4, h5, h6⟩ := h q List.mem_cons_self
    refine Rel.pins (L := r) (G := G.pin q.1 q.2) nd.2 (fun z hz => ?_) (R.pin h1 h2 h3 h4 h5 h6)
    obtain ⟨g1, g2, g3, g4, g5, g6⟩ := h z (List.mem_cons_of_mem _ hz)
    exact ⟨g1, g2, by rw [Gm.pin_ne fun e => nd.1 (by rw [← e]; exact List.mem_map_of_mem hz)]; exact g3, g4, g5, g6⟩
theorem Rel.unpins [Pn] : ∀ {L : List (Addr × HO)} {G : Gm}, Pn.P G → (L.map (·.1)).Nodup → (∀ q ∈ L, G.H0 q.1 = none ∧ G.F0 q.1 = none ∧ q.1 ∉ G.io ∧ ∀ us, q.2 ≠ .tup us) → Rel K (G.pins L) ρ F σ H →
    Rel K G ρ F σ H ∧ ∀ q ∈ L, F q.1 = none ∧ H q.1 = some q.2 ∧ NoS ρ σ q.1 ∧ NoN ρ q.1
  | [], G, _, _, _, R => ⟨R, fun _ z => absurd z List.not_mem_nil⟩
  | q :: r, G, ok, nd, h, R => by
    rw [List.map_cons, List.nodup_cons] at nd
    obtain ⟨h1, h2, h3, h4⟩ := h q List.mem_cons_self
    obtain ⟨R1, w⟩ := Rel.unpins (L := r) (G := G.pin q.1 q.2) (Pn.pin ok h1 h2 h3 h4) nd.2 (fun z hz => by
      obtain ⟨g1, g2, g3, g4⟩ := h z (List.mem_cons_of_mem _ hz)
      exact ⟨by rw [Gm.pin_ne fun e => nd.1 (by rw [← e]; exact List.mem_map_of_mem hz)]; exact g1, g2, g3, g4⟩) R
    obtain ⟨R2, f1, f2, f3⟩ := R1.unpin ok h1 h2 h3 h4
    refine ⟨R2, fun z hz => ?_⟩
    rcases List.mem_cons.mp hz with rfl | hz
    · exact ⟨f1, f2, f3, R1.unpinN h3⟩
    · exact w z hz
theorem ref_ne {b c : Addr} (h : σ[i]? = some (some (V.ref b))) (h2 : σ[j]? = some (some (V.ref c))) (n : σ[i]? ≠ σ[j]?) : b ≠ c := fun e => n (by rw [h, h2, e])
/-- an own thing is frozen -/
def Lc.pd : Lc → PD
  | .d x => x
  | .ls _ xs => .list xs
  | .dk _ kvs => .dict (kvs.map fun p => (keyD p.1, p.2))
  | .ob _ C fs => .dict ((.none, .int (C : Int)) :: fs.map fun p => (.str p.1, p.2))
  | _ => .none
def Lc.fz : Lc → Bool
  | .d _ => true
  | .ls none _ => true
  | .dk none _ => true
  | .ob none _ _ => true
  | _ => false
theorem DKv.dfk {us : List (Key × V)} {kvs : List (Key × PD)} (h : DKv K F us kvs) : DfK K F us (kvs.map fun p => (keyD p.1, p.2)) := by
  induction us generalizing kvs with
  | nil => cases h; exact .nil
  | cons u us ih =>
    cases h with
    | cons a b =>
      obtain ⟨k, v⟩ := u
      obtain ⟨a1, a2⟩ := a
      rename_i q r
      obtain ⟨k', d⟩ := q
      have : k = k' := a1
      subst this
      exact .cons a2 (ih b)
theorem DKv.dff {us : List (Str × V)} {fs : List (Str × PD)} (h : DKv K F us fs) : DfF K F us (fs.map fun p => (.str p.1, p.2)) := by
  induction us generalizing fs with
  | nil => cases h; exact .nil
  | cons u us ih =>
    cases h with
    | cons a b =>
      obtain ⟨k, v⟩ := u
      obtain ⟨a1, a2⟩ := a
      rename_i q r
      obtain ⟨k', d⟩ := q
      have : k = k' := a1
      subst this
      exact .cons a2 (ih b)
/-- the object of an own thing, frozen at a: its data -/
theorem HoOk.df (ok : HoOk K F l o) (hz : l.fz = true) (e : H a = some o) (s : Same F H) : Df K H (.ref a) l.pd := by
  cases l with
  | d x => cases o <;> exact False.elim ok
  | sc v => cases o <;> exact False.elim ok
  | ls p xs =>
    cases o with
    | lst vs => exact .lst (.inl e) (DfA.mono s ok)
    | _ => exact False.elim ok
  | dk p xs =>
    cases o with
    | dK vs => exact .dk (.inl e) ((DKv.mono s ok).dfk)
    | _ => exact False.elim ok
  | dt p xs => cases p <;> simp [Lc.fz] at hz
  | ob p C fs =>
    cases o with
    | ins D dx us =>
      obtain ⟨rfl, h⟩ := ok
      exact .ins e ((DKv.mono s h).dff)
    | _ => exact False.elim ok
  | nb p C fs ns => simp [Lc.fz] at hz
  | ln p xs => simp [Lc.fz] at hz
theorem upd_eq {H : Hp} {a : Addr} {o : HO} (e : H a = some o) : upd H a o = H := by
  funext b
  by_cases hb : b = a
  · subst hb; rw [upd_same, e]
  · rw [upd_ne hb]
/-- the frozen part takes in an own object that no other own slot holds -/
theorem Rel.freeze [Pn] (R : Rel K G ρ F σ H) (nf : F a = none) (n0 : G.H0 a = none) (e : H a = some o) (hf : ∀ (j : Nat) (m : Lc), ρ[j]? = some (some m) → m.own = true → σ[j]? ≠ some (some (.ref a))) (hn : NoN ρ a) : Rel K G ρ (upd F a o) σ H ∧ Same F (upd F a o) := by
  have sf : Same F (upd F a o) := same_new nf o
  refine ⟨⟨fun b u q => ?_, R.ff.trans sf, R.fr, fun b h1 h2 => ?_, R.ih, R.len, fun j m q => ?_, R.ds, R.ok, fun i l b xs q hb => ⟨⟨?_, (R.ns i l b xs q hb).1.ow, ?_⟩, (R.ns i l b xs q hb).2⟩⟩, sf⟩
  · by_cases hb : b = a
    · subst hb; rw [upd_same] at q; cases q; exact e
    · rw [upd_ne hb] at q; exact R.fh _ _ q
  · by_cases hb : b = a
    · subst hb; exact .inl n0
    · rw [upd_ne hb] at h1
      rw [upd_ne hb]; exact R.nw b h1 h2
  · have z := R.sl j m q
    cases hm : m.own with
    | true =>
      rw [own_slot hm] at z ⊢
      obtain ⟨c, e1, h1, h2, ob, h3, h4⟩ := z
      have hc : c ≠ a := fun q' => hf j m q hm (by rw [e1, q'])
      exact ⟨c, e1, by rw [upd_ne hc]; exact h1, h2, ob, h3, h4.mono sf⟩
    | false =>
      rcases not_own hm with ⟨x, rfl⟩ | ⟨v, rfl⟩
      · obtain ⟨v, e1, h1⟩ := z; exact ⟨v, e1, h1.mono sf⟩
      · obtain ⟨v, e1, h1⟩ := z; exact ⟨v, e1, h1.mono sf⟩
  · have hba : b ≠ a := fun z => hn i l xs q (by rw [← z]; exact hb)
    rw [upd_ne hba]; exact (R.ns i l b xs q hb).1.nf
  · obtain ⟨vs, e1, h1⟩ := (R.ns i l b xs q hb).1.ob
    exact ⟨vs, e1, h1.mono sf⟩
/-- a slot's own thing is frozen where it stands -/
theorem Rel.freeze_slot [Pn] (R : Rel K G ρ F σ H) (e : ρ[i]? = some (some l)) (ho : l.own = true) (hz : l.fz = true) :
    ∃ F' a, Rel K G (ρ.set i (some (.d l.pd))) F' σ H ∧ Same F F' ∧ σ[i]? = some (some (.ref a)) ∧ Df K F' (.ref a) l.pd := by
  obtain ⟨a, es, nf, ow, ob, eo, ok⟩ := R.at_ e ho
  have n0 : G.H0 a = none := by
    cases l with
    | d x => simp [Lc.own] at ho
    | sc x => simp [Lc.own] at ho
    | ls p xs => cases p <;> first | exact ow | (simp [Lc.fz] at hz)
    | dk p xs => cases p <;> first | exact ow | (simp [Lc.fz] at hz)
    | dt p xs => cases p <;> first | exact ow | (simp [Lc.fz] at hz)
    | ob p C xs => cases p <;> first | exact ow | (simp [Lc.fz] at hz)
    | nb p C fs ns => simp [Lc.fz] at hz
    | ln p xs => simp [Lc.fz] at hz
  have R1 : Rel K G (ρ.set i none) F σ H := R.drop i
  obtain ⟨R2, sf⟩ := R1.freeze nf n0 eo (fun j m q hm z => by
    rcases set_get q with ⟨_, _, w⟩ | ⟨hj, q⟩
    · cases w
    · exact hj (R.ds j i m l _ q e hm ho z es)) ((R.noN_at e ho es).drop i)
  have hd : Df K (upd F a ob) (.ref a) l.pd := ok.df hz upd_same sf
  have hi : i < ρ.length := (List.getElem?_eq_some_iff.mp e).1
  have hσ : i < σ.length := by rw [R.len]; exact hi
  have R3 := R2.store_d i hd
  have e1 : (ρ.set i none).set i (some (.d l.pd)) = ρ.set i (some (.d l.pd)) := by rw [List.set_set]
  have e2 : σ.set i (some (.ref a)) = σ := by
    apply List.ext_getElem?
    intro j
    by_cases hj : i = j
    · subst hj; rw [List.getElem?_set_self hσ, es]
    · rw [List.getElem?_set_ne hj]
  rw [e1, e2] at R3
  exact ⟨_, a, R3, sf, es, hd⟩
/-- an own thing is written -/
theorem Rel.write [Pn] (R : Rel K G ρ F σ H) (e : ρ[i]? = some (some l)) (ho : l.own = true) (es : σ[i]? = some (some (.ref a))) (ok : HoOk K F m o) (ht : m.tag = l.tag) (hfp : m.fp = l.fp := by rfl) :
    Rel K G (ρ.set i (some m)) F σ (upd H a o) := by
  obtain ⟨a', es', nf, ow, ob, eo, _⟩ := R.at_ e ho
  rw [es] at es'
  have : a = a' := by simpa using es'
  subst this
  have hi : i < ρ.length := (List.getElem?_eq_some_iff.mp e).1
  have ne : ∀ (j : Nat) (n : Lc), ρ[j]? = some (some n) → n.own = true → j ≠ i → σ[j]? ≠ some (some (.ref a)) := fun j n q hn hj z => hj (R.ds j i n l _ q e hn ho z es)
  refine ⟨fun b u q => ?_, R.ff, fun b u q hb => ?_, R.nw, fun b hb => ?_, by rw [List.length_set]; exact R.len, fun j n q => ?_, fun j k n r u q1 q2 h1 h2 q3 q4 => ?_, R.ok, fun j n b xs q hb => ?_⟩
  · rw [upd_ne (ne_of_none q nf)]; exact R.fh _ _ q
  · have : b ≠ a := by
      rintro rfl
      have ow' : OwnP G l.tag b := ow
      cases ht' : l.tag with
      | none => rw [ht'] at ow'; have ow' : G.H0 b = none := ow'; rw [q] at ow'; cases ow'
      | some k => rw [ht'] at ow'; exact hb (List.mem_of_getElem? ow')
    rw [upd_ne this]; exact R.fr b u q hb
  · refine ⟨?_, (R.ih b hb).2⟩
    by_cases hb' : b = a
    · subst hb'; rw [upd_same]; simp
    · rw [upd_ne hb']; exact (R.ih b hb).1
  · rcases set_get q with ⟨rfl, _, z⟩ | ⟨hj, q⟩
    · cases z
      rw [own_slot ok.own]
      exact ⟨a, es, nf, by rw [ht]; exact ow, o, upd_same, ok⟩
    · have z := R.sl j n q
      cases hn : n.own with
      | true =>
        rw [own_slot hn] at z ⊢
        obtain ⟨c, e1, h1, h2, u, h3, h4⟩ := z
        have hc : c ≠ a := fun w => ne j n q hn hj (by rw [e1, w])
        exact ⟨c, e1, h1, h2, u, by rw [upd_ne hc]; exact h3, h4⟩
      | false =>
        rcases not_own hn with ⟨x, rfl⟩ | ⟨v, rfl⟩
        · exact z
        · exact z
  · have old : ∀ {j : Nat} {n : Lc}, (ρ.set i (some m))[j]? = some (some n) → n.own = true → ∃ n', ρ[j]? = some (some n') ∧ n'.own = true := fun {j n} q hn => by
      rcases set_get q with ⟨rfl, _, z⟩ | ⟨hj, q⟩
      · exact ⟨l, e, ho⟩
      · exact ⟨n, q, hn⟩
    obtain ⟨n', q1', h1'⟩ := old q1 h1
    obtain ⟨r', q2', h2'⟩ := old q2 h2
    exact R.ds j k n' r' u q1' q2' h1' h2' q3 q4
  · have old : ∀ {j : Nat} {n : Lc}, (ρ.set i (some m))[j]? = some (some n) → ∃ n', ρ[j]? = some (some n') ∧ n'.fp = n.fp ∧ (n.own = true → n'.own = true) := fun {j n} q => by
      rcases set_get q with ⟨rfl, _, z⟩ | ⟨hj, q⟩
      · cases z; exact ⟨l, e, hfp.symm, fun _ => ho⟩
      · exact ⟨n, q, rfl, id⟩
    obtain ⟨n', q', f', _⟩ := old q
    obtain ⟨⟨z1, z2, vs, z3, z4⟩, w⟩ := R.ns j n' b xs q' (by rw [f']; exact hb)
    have hba : b ≠ a := fun z => R.noN_at e ho es j n' xs q' (by rw [← z, f']; exact hb)
    have et : n'.tag = n.tag := by
      rcases set_get q with ⟨rfl, _, z⟩ | ⟨hj, q⟩
      · cases z; rw [e] at q'; cases q'; exact ht.symm
      · rw [q] at q'; cases q'; rfl
    rw [et] at z2
    refine ⟨⟨z1, z2, vs, by rw [upd_ne hba]; exact z3, z4⟩, fun k r q2 => ?_⟩
    obtain ⟨r', q2', f2, o2⟩ := old q2
    obtain ⟨w1, w2⟩ := w k r' q2'
    exact ⟨fun hr => w1 (o2 hr), fun ys hy => w2 ys (by rw [f2]; exact hy)⟩
end
end DL
/-! The data layer, part b: readings over data, and the rules of expressions. -/
namespace DL
open PySem L2

theorem peImp {X : Cx} {e : Expr} {t t' : TE} (h : PE X e t) (w : ∀ σ H Q, t' σ H Q → t σ H Q) : PE X e t' := ⟨fun pins s σ H Q I q => h.run pins s σ H Q I (w _ _ _ q)⟩
theorem ptImp {X : Cx} {e : Expr} {t t' : TT} (h : PT X e t) (w : ∀ σ H Q, t' σ H Q → t σ H Q) : PT X e t' := ⟨fun pins s σ H Q I q => h.run pins s σ H Q I (w _ _ _ q)⟩
theorem pwImp {X : Cx} {e : Expr} {t t' : TT} (h : PW X e t) (w : ∀ σ H Q, t' σ H Q → t σ H Q) : PW X e t' := ⟨fun wh pins s σ H Q I q => h.run wh pins s σ H Q I (w _ _ _ q)⟩
theorem paImp {X : Cx} {e : List Expr} {t t' : TA} (h : PA X e t) (w : ∀ σ H Q, t' σ H Q → t σ H Q) : PA X e t' := ⟨fun pos pins s σ H Q I q => h.run pos pins s σ H Q I (w _ _ _ q)⟩
theorem psImp {X : Cx} {e : Stmt} {t t' : TS} (h : PS X e t) (w : ∀ D σ H, t' D σ H → t D σ H) : PS X e t' := ⟨fun pins s σ H D I q => h.run pins s σ H D I (w _ _ _ q)⟩
theorem pssImp {X : Cx} {e : List Stmt} {t t' : TS} (h : PSs X e t) (w : ∀ D σ H, t' D σ H → t D σ H) : PSs X e t' := ⟨fun pins s σ H D I q => h.run pins s σ H D I (w _ _ _ q)⟩
theorem pgImp {X : Cx} {e : Expr} {t t' : TG} (h : PG X e t) (w : ∀ v σ H Q, t' v σ H Q → t v σ H Q) : PG X e t' := ⟨fun pins s σ H v u Q I r q => h.run pins s σ H v u Q I r (w _ _ _ _ q)⟩

/-! ### readings over data -/
abbrev TD := En → (PD → En → Prop) → Prop
abbrev TF := En → (Lc → En → Prop) → Prop
abbrev TTd := En → (Bool → En → Prop) → Prop
/-- an operand: an expression, or the thing in a slot, looked at when the operation is done -/
inductive Op1 where
  | e (t : TD)
  | s (i : Nat)
  /-- the own list under a name in the own instance of a slot -/
  | f (C : Addr) (i : Nat) (nm : Str)
inductive AV where
  | v (x : PD)
  | s (i : Nat)
  | f (i : Nat) (nm : Str) (b : Addr)
abbrev TAd := En → (List AV → En → Prop) → Prop
def Op1.run : Op1 → En → (AV → En → Prop) → Prop
  | .e t, ρ, Q => t ρ fun x ρ' => Q (.v x) ρ'
  | .s i, ρ, Q => match ρ[i]? with
    | some (some _) => Q (.s i) ρ
    | _ => False
  | .f C i nm, ρ, Q => match ρ[i]? with
    | some (some (.nb _ B fs ns)) => B = C ∧ noF nm fs = true ∧ (match getN nm ns with
      | some (b, _) => Q (.f i nm b) ρ
      | none => False)
    | _ => False

section
variable (K : PySem.W.Frag)
/-- a thing at a that no slot holds -/
structure Frs (G : Gm) (F H : Hp) (ρ : En) (σ : L2.St) (l : Lc) (a : Addr) : Prop where
  hf : NoS ρ σ a
  hn : NoN ρ a
  ns : NsR K G F H ρ σ l (.ref a)
def RsOk (G : Gm) (F H : Hp) (ρ : En) (σ : L2.St) : Lc → V → Prop
  | .d x, v => Df K F v x
  | .sc xs, v => ScOk K F xs v
  | l, v => ∃ a, v = .ref a ∧ l.tag = none ∧ At K G F H l a ∧ Frs K G F H ρ σ l a
def AvOk (F : Hp) (σ : L2.St) : AV → V → Prop
  | .v x, v => Df K F v x
  | .s i, v => σ[i]? = some (some v)
  | .f _ _ b, v => v = .ref b
inductive AvA (F : Hp) (σ : L2.St) : List AV → List V → Prop
  | nil : AvA F σ [] []
  | cons {a : AV} {as : List AV} {v : V} {vs : List V} : AvOk K F σ a v → AvA F σ as vs → AvA F σ (a :: as) (v :: vs)
def liftD [Pn] (t : TD) : TE := fun σ H Q => ∃ G ρ F Q', Rel K G ρ F σ H ∧ t ρ Q' ∧ ∀ x ρ' v H' F', Q' x ρ' → Rel K G ρ' F' σ H' → Same F F' → Df K F' v x → Q v H'
def liftF [Pn] (t : TF) : TE := fun σ H Q => ∃ G ρ F Q', Rel K G ρ F σ H ∧ t ρ Q' ∧ ∀ l ρ' v H' F', Q' l ρ' → Rel K G ρ' F' σ H' → Same F F' → RsOk K G F' H' ρ' σ l v → Q v H'
def liftT [Pn] (t : TTd) : TT := fun σ H Q => ∃ G ρ F Q', Rel K G ρ F σ H ∧ t ρ Q' ∧ ∀ b ρ' H' F', Q' b ρ' → Rel K G ρ' F' σ H' → Same F F' → Q b H'
def liftO [Pn] (o : Op1) : TE := fun σ H Q => ∃ G ρ F Q', Rel K G ρ F σ H ∧ o.run ρ Q' ∧ ∀ a ρ' v H' F', Q' a ρ' → Rel K G ρ' F' σ H' → Same F F' → AvOk K F' σ a v → Q v H'
def liftA [Pn] (n : Nat) (t : TAd) : TA := fun σ H Q => ∃ G ρ F Q', Rel K G ρ F σ H ∧ t ρ Q' ∧ ∀ as ρ' vs H' F', Q' as ρ' → as.length = n → Rel K G ρ' F' σ H' → Same F F' → AvA K F' σ as vs → Q vs H'
end
structure LD [Pn] (X : Cx) (e : Expr) (t : TD) : Prop where
  p : PE X e (liftD X.K t)
structure LF [Pn] (X : Cx) (e : Expr) (t : TF) : Prop where
  p : PE X e (liftF X.K t)
structure LT [Pn] (X : Cx) (e : Expr) (t : TTd) : Prop where
  p : PT X e (liftT X.K t)
structure LW [Pn] (X : Cx) (e : Expr) (t : TTd) : Prop where
  p : PW X e (liftT X.K t)
structure LO [Pn] (X : Cx) (e : Expr) (t : Op1) : Prop where
  p : PE X e (liftO X.K t)
structure LA [Pn] (X : Cx) (es : List Expr) (t : TAd) : Prop where
  p : PA X es (liftA X.K es.length t)

section
variable {G : Gm} {X : Cx} {K : PySem.W.Frag} {F F' H H' : Hp} {ρ : En} {σ : L2.St} {v : V} {x : PD}

/-! ### what an operand stands for, at the operation -/
/-- the thing itself may be an own one (known to H alone), what lies in it is frozen -/
inductive Dr (K : PySem.W.Frag) (F H : Hp) : V → PD → Prop
  | f {v : V} {x : PD} : Df K F v x → Dr K F H v x
  | l {a : Addr} {vs : List V} {xs : List PD} : H a = some (.lst vs) → DfA K F vs xs → Dr K F H (.ref a) (.list xs)
  | k {a : Addr} {us : List (Key × V)} {kvs : List (Key × PD)} : H a = some (.dK us) → DKv K F us kvs → Dr K F H (.ref a) (.dict (kvs.map fun p => (keyD p.1, p.2)))
def res1 (ρ : En) : AV → (PD → Prop) → Prop
  | .v x, k => k x
  | .s i, k => match ρ[i]? with
    | some (some (.d x)) => k x
    | some (some (.ls _ xs)) => k (.list xs)
    | some (some (.dk _ kvs)) => k (.dict (kvs.map fun p => (keyD p.1, p.2)))
    | _ => False
  | .f i nm b, k => match ρ[i]? with
    | some (some (.nb _ _ _ ns)) => (match getN nm ns with
      | some (c, xs) => c = b ∧ k (.list xs)
      | none => False)
    | _ => False
/-- frozen ones alone -/
def resF (ρ : En) : AV → (PD → Prop) → Prop
  | .v x, k => k x
  | .s i, k => match ρ[i]? with
    | some (some (.d x)) => k x
    | _ => False
  | .f _ _ _, _ => False
def resA (ρ : En) : List AV → (List PD → Prop) → Prop
  | [], k => k []
  | a :: r, k => res1 ρ a fun x => resA ρ r fun xs => k (x :: xs)
def resFA (ρ : En) : List AV → (List PD → Prop) → Prop
  | [], k => k []
  | a :: r, k => resF ρ a fun x => resFA ρ r fun xs => k (x :: xs)
inductive DrA (K : PySem.W.Frag) (F H : Hp) : List V → List PD → Prop
  | nil : DrA K F H [] []
  | cons {v : V} {vs : List V} {d : PD} {ds : List PD} : Dr K F H v d → DrA K F H vs ds → DrA K F H (v :: vs) (d :: ds)

theorem AvOk.mono {a : AV} (s : Same F F') (h : AvOk K F σ a v) : AvOk K F' σ a v := by
  cases a with
  | v x => exact Df.mono s h
  | s i => exact h
  | f i nm b => exact h
/-- an own list in an own instance -/
theorem Rel.nst [Pn] {i : Nat} {p : Option Nat} {C : Addr} {fs : List (Str × PD)} {ns : List (Str × Addr × List PD)} {nm : Str} {b : Addr} {xs : List PD} (R : Rel K G ρ F σ H) (e : ρ[i]? = some (some (.nb p C fs ns))) (h : getN nm ns = some (b, xs)) : ∃ vs, H b = some (.lst vs) ∧ DfA K F vs xs :=
  (R.ns i _ b xs e (List.mem_map.mpr ⟨_, getN_mem h, rfl⟩)).1.ob
theorem AvA.mono {as : List AV} {vs : List V} (s : Same F F') (h : AvA K F σ as vs) : AvA K F' σ as vs := by
  induction h with
  | nil => exact .nil
  | cons a _ ih => exact .cons (a.mono s) ih
theorem res1_dr [Pn] (R : Rel K G ρ F σ H) {a : AV} (h : AvOk K F σ a v) {k : PD → Prop} (r : res1 ρ a k) : ∃ x, k x ∧ Dr K F H v x := by
  cases a with
  | v x => exact ⟨x, r, .f h⟩
  | s i =>
    dsimp only [res1] at r
    have h : σ[i]? = some (some v) := h
    split at r
    · rename_i x e
      obtain ⟨u, e1, d⟩ := R.sl i _ e
      rw [h] at e1
      have : v = u := by simpa using e1
      subst this
      exact ⟨x, r, .f d⟩
    · rename_i p xs e
      obtain ⟨b, e1, nf, ow, o, eo, ok⟩ := R.at_ e rfl
      rw [h] at e1
      have : v = .ref b := by simpa using e1
      subst this
      cases o <;> first | exact False.elim ok | exact ⟨_, r, .l eo ok⟩
    · rename_i p xs e
      obtain ⟨b, e1, nf, ow, o, eo, ok⟩ := R.at_ e rfl
      rw [h] at e1
      have : v = .ref b := by simpa using e1
      subst this
      cases o <;> first | exact False.elim ok | exact ⟨_, r, .k eo ok⟩
    · exact False.elim r
  | f i nm b =>
    dsimp only [res1] at r
    have h : v = .ref b := h
    subst h
    split at r
    · rename_i p C fs ns e
      split at r
      · rename_i c xs en
        obtain ⟨rfl, r⟩ := r
        obtain ⟨vs, e1, d⟩ := R.nst e en
        exact ⟨_, r, .l e1 d⟩
      · exact False.elim r
    · exact False.elim r
theorem resF_df [Pn] (R : Rel K G ρ F σ H) {a : AV} (h : AvOk K F σ a v) {k : PD → Prop} (r : resF ρ a k) : ∃ x, k x ∧ Df K F v x := by
  cases a with
  | v x => exact ⟨x, r, h⟩
  | s i =>
    dsimp only [resF] at r
    have h : σ[i]? = some (some v) := h
    split at r
    · rename_i x e
      obtain ⟨u, e1, d⟩ := R.sl i _ e
      rw [h] at e1
      have : v = u := by simpa using e1
      subst this
      exact ⟨x, r, d⟩
    · exact False.elim r
  | f i nm b => exact False.elim r
theorem resA_dr [Pn] (R : Rel K G ρ F σ H) : ∀ {as : List AV} {vs : List V}, AvA K F σ as vs → ∀ {k : List PD → Prop}, resA ρ as k → ∃ xs, k xs ∧ DrA K F H vs xs
  | _, _, .nil, k, r => ⟨[], r, .nil⟩
  | _, _, .cons a t, k, r => by
    obtain ⟨x, r1, d⟩ := res1_dr R a r
    obtain ⟨xs, r2, ds⟩ := resA_dr R t r1
    exact ⟨x :: xs, r2, .cons d ds⟩
theorem resFA_df [Pn] (R : Rel K G ρ F σ H) : ∀ {as : List AV} {vs : List V}, AvA K F σ as vs → ∀ {k : List PD → Prop}, resFA ρ as k → ∃ xs, k xs ∧ DfA K F vs xs
  | _, _, .nil, k, r => ⟨[], r, .nil⟩
  | _, _, .cons a t, k, r => by
    obtain ⟨x, r1, d⟩ := resF_df R a r
    obtain ⟨xs, r2, ds⟩ := resFA_df R t r1
    exact ⟨x :: xs, r2, .cons d ds⟩
theorem AvA.length {as : List AV} {vs : List V} (h : AvA K F σ as vs) : as.length = vs.length := by
  induction h with
  | nil => rfl
  | cons _ _ ih => rw [List.length_cons, List.length_cons, ih]
theorem Dr.df (s : Same F H) (h : Dr K F H v x) : Df K H v x := by
  cases h with
  | f h => exact h.mono s
  | l e h => exact .lst (.inl e) (h.mono s)
  | k e h => exact .dk (.inl e) ((DKv.mono s h).dfk)
theorem Dr.int {i : Int} (h : Dr K F H v (.int i)) : v = .int i := by cases h with | f h => cases h; rfl
theorem Dr.str {i : Str} (h : Dr K F H v (.str i)) : v = .str i := by cases h with | f h => cases h; rfl
theorem Dr.bl {i : Bool} (h : Dr K F H v (.bool i)) : v = .bl i := by cases h with | f h => cases h; rfl
theorem Dr.non (h : Dr K F H v .none) : v = .non := by cases h with | f h => cases h; rfl
theorem Dr.tup {xs : List PD} (s : Same F H) (h : Dr K F H v (.tuple xs)) : ∃ a vs, v = .ref a ∧ SqT K H a vs ∧ DfA K F vs xs := by
  cases h with
  | f h => cases h with | tup q d => exact ⟨_, _, rfl, seqT s q, d⟩
theorem Dr.lst {xs : List PD} (s : Same F H) (h : Dr K F H v (.list xs)) : ∃ a vs, v = .ref a ∧ Rd H a (.lst vs) ∧ DfA K F vs xs := by
  cases h with
  | f h => cases h with | lst q d => exact ⟨_, _, rfl, rdM s q, d⟩
  | l e d => exact ⟨_, _, rfl, .inl e, d⟩

/-! ### coercions -/
def dFz (t : TF) : TD := fun ρ Q => t ρ fun l ρ' => if l.fz = true then Q l.pd ρ' else False
def fD (t : TD) : TF := fun ρ Q => t ρ fun x ρ' => Q (.d x) ρ'
theorem RsOk.freeze [Pn] {l : Lc} (R : Rel K G ρ F σ H) (h : RsOk K G F H ρ σ l v) (hz : l.fz = true) : ∃ F', Rel K G ρ F' σ H ∧ Same F F' ∧ Df K F' v l.pd := by
  cases l with
  | d x => exact ⟨F, R, Same.refl _, h⟩
  | sc u => simp [Lc.fz] at hz
  | ls p xs =>
    obtain ⟨a, rfl, ht, ⟨nf, ow, o, eo, ok⟩, hf⟩ := h
    have ht : p = none := ht
    subst ht
    obtain ⟨R', s⟩ := R.freeze nf ow eo hf.hf hf.hn
    exact ⟨_, R', s, ok.df hz upd_same s⟩
  | dk p xs =>
    obtain ⟨a, rfl, ht, ⟨nf, ow, o, eo, ok⟩, hf⟩ := h
    have ht : p = none := ht
    subst ht
    obtain ⟨R', s⟩ := R.freeze nf ow eo hf.hf hf.hn
    exact ⟨_, R', s, ok.df hz upd_same s⟩
  | ob p C xs =>
    obtain ⟨a, rfl, ht, ⟨nf, ow, o, eo, ok⟩, hf⟩ := h
    have ht : p = none := ht
    subst ht
    obtain ⟨R', s⟩ := R.freeze nf ow eo hf.hf hf.hn
    exact ⟨_, R', s, ok.df hz upd_same s⟩
  | dt p xs => cases p <;> simp [Lc.fz] at hz
  | nb p C fs ns => simp [Lc.fz] at hz
  | ln p xs => simp [Lc.fz] at hz
variable {e e2 : Expr} {es : List Expr} {pos : Pos}
theorem LD.ofF [Pn] {t : TF} (h : LF X e t) : LD X e (dFz t) := ⟨peImp h.p fun σ H Q ⟨G, ρ, F, Q', R, q, c⟩ => ⟨G, ρ, F, _, R, q, fun l ρ' v H' F' h1 R1 s1 r1 => by
  split at h1
  · rename_i hz
    obtain ⟨F2, R2, s2, d⟩ := r1.freeze R1 hz
    exact c _ _ v H' F2 h1 R2 (s1.trans s2) d
  · exact False.elim h1⟩⟩
theorem LF.ofD [Pn] {t : TD} (h : LD X e t) : LF X e (fD t) := ⟨peImp h.p fun σ H Q ⟨G, ρ, F, Q', R, q, c⟩ => ⟨G, ρ, F, _, R, q, fun x ρ' v H' F' h1 R1 s1 r1 => c _ _ v H' F' h1 R1 s1 r1⟩⟩
theorem LO.ofD [Pn] {t : TD} (h : LD X e t) : LO X e (.e t) := ⟨peImp h.p fun σ H Q ⟨G, ρ, F, Q', R, q, c⟩ => ⟨G, ρ, F, _, R, q, fun x ρ' v H' F' h1 R1 s1 r1 => c _ _ v H' F' h1 R1 s1 r1⟩⟩

/-! ### names, constants -/
def dC (x : PD) : TD := fun ρ Q => Q x ρ
def dVar (i : Nat) : TD := fun ρ Q => match ρ[i]? with
  | some (some (.d x)) => Q x ρ
  | some (some l) => if l.fz = true then Q l.pd (ρ.set i (some (.d l.pd))) else False
  | _ => False
theorem LD.int [Pn] {i : Int} {j : Nat} : LD X (.Constant (.int i) j pos) (dC (.int i)) := ⟨peImp pe_int fun σ H Q ⟨G, ρ, F, Q', R, q, c⟩ => c _ _ _ H F q R (Same.refl _) (.int i)⟩
theorem LD.str [Pn] {i : Str} {j : Nat} : LD X (.Constant (.str i) j pos) (dC (.str i)) := ⟨peImp pe_str fun σ H Q ⟨G, ρ, F, Q', R, q, c⟩ => c _ _ _ H F q R (Same.refl _) (.str i)⟩
theorem LD.bl [Pn] {i : Bool} {j : Nat} : LD X (.Constant (.bool i) j pos) (dC (.bool i)) := ⟨peImp pe_bl fun σ H Q ⟨G, ρ, F, Q', R, q, c⟩ => c _ _ _ H F q R (Same.refl _) (.bl i)⟩
theorem LD.non [Pn] {j : Nat} : LD X (.Constant .none j pos) (dC .none) := ⟨peImp pe_non fun σ H Q ⟨G, ρ, F, Q', R, q, c⟩ => c _ _ _ H F q R (Same.refl _) .non⟩
theorem LD.glob [Pn] {x : Str} {v : V} {u : Value} {d : PD} (hg : Gl X x) (hm : X.mg x = some u) (r : RelV v u) (h : ∀ F, Df X.K F v d) (hd : (x == ("__debug__" : Str)) = false := by decide) : LD X (.Name x pos) (dC d) :=
  ⟨peImp (pe_glob hg hm r hd) fun σ H Q ⟨G, ρ, F, Q', R, q, c⟩ => c _ _ _ H F q R (Same.refl _) (h F)⟩
theorem LD.var [Pn] (i : Nat) (h : PE X e (tVar i)) : LD X e (dVar i) := ⟨peImp h fun σ H Q ⟨G, ρ, F, Q', R, q, c⟩ => by
  unfold dVar at q
  split at q
  · rename_i x er
    obtain ⟨v, e1, d⟩ := R.sl i _ er
    exact ⟨v, e1, c _ _ v H F q R (Same.refl _) d⟩
  · rename_i l nd er
    split at q
    · rename_i hz
      have ho : l.own = true := by
        cases l with
        | d x => exact absurd rfl (nd x)
        | sc u => simp [Lc.fz] at hz
        | _ => rfl
      obtain ⟨F', a, R', s, es, d⟩ := R.freeze_slot er ho hz
      exact ⟨_, es, c _ _ _ H F' q R' s d⟩
    · exact False.elim q
  · exact False.elim q⟩
theorem LO.s [Pn] (i : Nat) (h : PE X e (tVar i)) : LO X e (.s i) := ⟨peImp h fun σ H Q ⟨G, ρ, F, Q', R, q, c⟩ => by
  dsimp only [Op1.run] at q
  split at q
  · rename_i l er
    obtain ⟨v, e1⟩ := (R.sl i _ er).some
    exact ⟨v, e1, c _ _ v H F q R (Same.refl _) e1⟩
  · exact False.elim q⟩

/-! ### argument lists -/
def aNil : TAd := fun ρ Q => Q [] ρ
def aCons (o : Op1) (r : TAd) : TAd := fun ρ Q => o.run ρ fun a ρ1 => r ρ1 fun as ρ2 => Q (a :: as) ρ2
theorem LA.nil [Pn] : LA X [] aNil := ⟨paImp pa_nil fun σ H Q ⟨G, ρ, F, Q', R, q, c⟩ => c _ _ _ H F q rfl R (Same.refl _) .nil⟩
theorem LA.cons [Pn] {o : Op1} {r : TAd} (h : LO X e o) (hr : LA X es r) (hs : starEach (e :: es) X.env = (false, eval e X.env) :: starEach es X.env := by rfl) : LA X (e :: es) (aCons o r) :=
  ⟨paImp (pa_cons h.p hr.p hs) fun σ H Q ⟨G, ρ, F, Q', R, q, c⟩ => ⟨G, ρ, F, _, R, q, fun a ρ1 v H1 F1 h1 R1 s1 a1 => ⟨G, ρ1, F1, _, R1, h1, fun as ρ2 vs H2 F2 h2 hl R2 s2 a2 =>
    c _ _ _ H2 F2 h2 (by rw [List.length_cons, List.length_cons, hl]) R2 (s1.trans s2) (.cons (a1.mono s2) a2)⟩⟩⟩

/-! ### displays -/
def dTup (t : TAd) : TD := fun ρ Q => t ρ fun as ρ1 => resFA ρ1 as fun xs => Q (.tuple xs) ρ1
def fLst (t : TAd) : TF := fun ρ Q => t ρ fun as ρ1 => resFA ρ1 as fun xs => Q (.ls none xs) ρ1
theorem LD.tup [Pn] {t : TAd} {k : Nat} (h : LA X es t) (hn : es.length ≤ 100000 := by decide) : LD X (.Tuple es k pos) (dTup t) := ⟨peImp (pe_tup h.p) fun σ H Q ⟨G, ρ, F, Q', R, q, c⟩ => ⟨G, ρ, F, _, R, q, fun as ρ1 vs H1 F1 h1 hl R1 s1 a1 => by
  obtain ⟨xs, h2, d⟩ := resFA_df R1 a1 h1
  refine ⟨Nat.le_trans (by rw [← a1.length, hl]; exact hn) (by decide), fun p hp => ?_⟩
  have g := Grow.frozen R1.fh hp (.tup vs)
  exact c _ _ _ _ _ h2 (R1.grow g) (s1.trans g.ff) (.tup (SqT.of upd_same) (d.mono g.ff))⟩⟩
theorem fresh_ok [Pn] {l : Lc} {p : Addr} {o : HO} (R : Rel K G ρ F σ H) (hp : H p = none) (ok : HoOk K F l o) (ht : l.tag = none) (hfp : l.fp = [] := by rfl) : Rel K G ρ F σ (upd H p o) ∧ RsOk K G F (upd H p o) ρ σ l (.ref p) := by
  refine ⟨R.grow (Grow.owned R.fh hp o), ?_⟩
  have h : ∃ a, V.ref p = .ref a ∧ l.tag = none ∧ At K G F (upd H p o) l a ∧ Frs K G F (upd H p o) ρ σ l a := by
    refine ⟨p, rfl, ht, ⟨R.fh.free hp, ?_, o, upd_same, ok⟩, R.noS_free hp, R.noN_free hp, .nil hfp⟩
    rw [ht]; exact R.h0 hp
  cases l with
  | d x => cases o <;> exact False.elim ok
  | sc u => cases o <;> exact False.elim ok
  | _ => exact h
theorem LF.lst [Pn] {t : TAd} (h : LA X es t) (hn : es.length ≤ 100000 := by decide) : LF X (.List es pos) (fLst t) := ⟨peImp (pe_lst h.p) fun σ H Q ⟨G, ρ, F, Q', R, q, c⟩ => ⟨G, ρ, F, _, R, q, fun as ρ1 vs H1 F1 h1 hl R1 s1 a1 => by
  obtain ⟨xs, h2, d⟩ := resFA_df R1 a1 h1
  refine ⟨Nat.le_trans (by rw [← a1.length, hl]; exact hn) (by decide), fun p hp => ?_⟩
  obtain ⟨R2, k⟩ := fresh_ok (l := .ls none xs) (o := .lst vs) R1 hp d rfl
  exact c _ _ _ _ _ h2 R2 s1 k⟩⟩

/-! ### operators of two places, by data -/
abbrev F2 := PD → PD → (PD → Prop) → Prop
def Op2Ok (K : PySem.W.Frag) (f : F2) (r : R2) : Prop := ∀ (F H : Hp) (vx vy : V) (x y : PD) (k : PD → Prop) (Q : VK), Same F H → Dr K F H vx x → Dr K F H vy y → f x y k →
  (∀ z v F' H', k z → Grow F H F' H' → Df K F' v z → Q v H') → r vx vy H Q
def dBin (f : F2) (a b : Op1) : TD := fun ρ Q => a.run ρ fun x ρ1 => b.run ρ1 fun y ρ2 => res1 ρ2 x fun x' => res1 ρ2 y fun y' => f x' y' fun z => Q z ρ2
variable {f : F2} {r : R2} {oa ob oc : Op1}
theorem tOp_of [Pn] (hf : Op2Ok K f r) {Q : VK} (h : liftD K (dBin f oa ob) σ H Q) : tOp r (liftO K oa) (liftO K ob) σ H Q := by
  obtain ⟨G, ρ, F, Q', R, q, c⟩ := h
  refine ⟨G, ρ, F, _, R, q, fun a ρ1 vx H1 F1 h1 R1 s1 ax => ⟨G, ρ1, F1, _, R1, h1, fun b ρ2 vy H2 F2 h2 R2 s2 ay => ?_⟩⟩
  obtain ⟨x', h3, dx⟩ := res1_dr R2 (ax.mono s2) h2
  obtain ⟨y', h4, dy⟩ := res1_dr R2 ay h3
  exact hf F2 H2 vx vy x' y' _ Q R2.fh dx dy h4 fun z v F' H' kz g d => c _ _ _ _ _ kz (R2.grow g) ((s1.trans s2).trans g.ff) d
theorem LD.bin [Pn] {op : Operator} (ho : OpR X (binaryOp op) r) (hf : Op2Ok X.K f r) (ha : LO X e oa) (hb : LO X e2 ob) : LD X (.BinOp e op e2 pos) (dBin f oa ob) := ⟨peImp (pe_op ho ha.p hb.p) fun _ _ _ h => tOp_of hf h⟩
theorem LD.cmp [Pn] {op : CmpOp} (ho : OpR X (compareOp op) r) (hf : Op2Ok X.K f r) (ha : LO X e oa) (hb : LO X e2 ob) (hm : behindInMarks op e2 = false) : LD X (.Compare e [op] [e2] pos) (dBin f oa ob) := ⟨peImp (pe_cmpR ho ha.p hb.p hm) fun _ _ _ h => tOp_of hf h⟩
def bAdd : F2
  | .int i, .int j, k => k (.int (i + j))
  | .list xs, .list ys, k => xs.length + ys.length ≤ sizeLine ∧ k (.list (xs ++ ys))
  | .tuple xs, .tuple ys, k => xs ≠ [] ∧ xs.length + ys.length ≤ sizeLine ∧ k (.tuple (xs ++ ys))
  | .str x, .str y, k => x.length + y.length ≤ sizeLine ∧ k (.str (x ++ y))
  | _, _, _ => False
def bSub : F2
  | .int i, .int j, k => k (.int (i - j))
  | _, _, _ => False
/-- * of ints; a list by an int -/
def bMul : F2
  | .int i, .int j, k => IntMulOk i j ∧ k (.int (i * j))
  | .list xs, .int j, k => (0 ≤ j ∧ j < 2 ^ 60 ∧ xs.length * j.toNat ≤ sizeLine) ∧ k (.list (List.replicate j.toNat xs).flatten)
  | _, _, _ => False
/-- the divisor above 0 -/
def bFdiv : F2
  | .int i, .int j, k => CDivW i j ∧ k (.int (i / j))
  | _, _, _ => False
def bFdivN : F2
  | .int i, .int j, k => (j ≠ 0 ∧ j.natAbs.log2 < 9000) ∧ k (.int (i.fdiv j))
  | _, _, _ => False
def bMod : F2
  | .int i, .int j, k => 0 < j ∧ k (.int (i % j))
  | _, _, _ => False
def bModN : F2
  | .int i, .int j, k => j ≠ 0 ∧ k (.int (i.fmod j))
  | _, _, _ => False
def CPowW (i j : Int) : Prop := 0 ≤ j ∧ (Builtin.Int.intBits i : Int) * j ≤ 2 ^ 27
def bPow : F2
  | .int i, .int j, k => CPowW i j ∧ k (.int (i ^ j.toNat))
  | _, _, _ => False
def bShl : F2
  | .int i, .int j, k => CPow i j ∧ k (.int (i * 2 ^ j.toNat))
  | _, _, _ => False
end
end DL
/-! The data layer, part c: the operators' rules by data. -/
namespace DL
open PySem L2 PyProof.Rows

section
variable {X : Cx} {K : PySem.W.Frag} {F H : Hp}

/-! ### lists that may be the script's own -/
theorem rd_list {pins : List (Addr × Obj)} {σ : L2.St} {s : Shared} {l : Addr} {xs : List V} (I : Inv X pins σ H s) (h : Rd H l (.lst xs)) :
    xs.length ≤ sizeLine ∧ ∃ (its : List Value) (n : Nat), Vals xs its ∧ xs.length = its.length ∧ s.heap.get? l = some { cls := .type "list", data := .seq its.toArray n } := by
  have q : ObjOk X.prog X.w H s.heap l (.lst xs) := h.ok I.hok
  obtain ⟨z, its, n, r, e⟩ := q
  exact ⟨z, its, n, r, r.length, e⟩
theorem rdSq {l : Addr} {xs : List V} (h : Rd H l (.lst xs)) : SqL K H l xs := .inl h
def rCatD : R2 := fun x y H Q => ∃ l b xs zs, x = .ref l ∧ y = .ref b ∧ Rd H l (.lst xs) ∧ Rd H b (.lst zs) ∧ xs.length + zs.length ≤ sizeLine ∧ ∀ p, H p = none → Q (.ref p) (upd H p (.lst (xs ++ zs)))
theorem op_catD : OpR X (binaryOp .Add) rCatD := by
  intro pins s σ H x y v u Q I rx ry ⟨l, b, xs, zs, ex, ey, hx, hy, hz, q⟩
  subst ex ey
  cases rx; cases ry
  obtain ⟨z, is1, n, r, hl, e⟩ := rd_list I hx
  obtain ⟨z2, is2, n2, r2, hl2, e2⟩ := rd_list I hy
  have ea : is1.toArray ++ is2.toArray = (is1 ++ is2).toArray := by simp
  refine PySem.P.add_list e e2 ?_ (by simp only [List.size_toArray]; omega)
  simp only [ea]
  refine ⟨.ref _, _, I.lnew (t' := s.toks) (r.append r2) ?_, rfl, q _ I.fresh⟩
  simp only [List.length_append]; exact hz

/-! ### + -/
def rAddD (K : PySem.W.Frag) : R2 := fun x y H Q => rI0 (fun i j => .int (i + j)) x y H Q ∨ rCatD x y H Q ∨ rCatT K x y H Q ∨ (∃ i j, x = .str i ∧ y = .str j ∧ i.length + j.length ≤ sizeLine ∧ Q (.str (i ++ j)) H)
theorem op_addD : OpR X (binaryOp .Add) (rAddD X.K) := op_add.or (op_catD.or (op_catT.or op_add_str))
theorem ok_add : Op2Ok K bAdd (rAddD K) := by
  intro F H vx vy x y k Q s dx dy h c
  unfold bAdd at h
  split at h
  · rename_i i j
    rw [dx.int, dy.int]
    exact .inl ⟨_, _, rfl, rfl, c _ _ F H h (Grow.refl s) (.int _)⟩
  · obtain ⟨a, vs, rfl, q, d⟩ := dx.lst s
    obtain ⟨b, us, rfl, q2, d2⟩ := dy.lst s
    refine .inr (.inl ⟨a, b, vs, us, rfl, rfl, q, q2, by rw [d.length, d2.length]; exact h.1, fun p hp => ?_⟩)
    have g := Grow.frozen s hp (.lst (vs ++ us))
    exact c _ _ _ _ h.2 g (.lst (.inl upd_same) ((d.append d2).mono g.ff))
  · obtain ⟨a, vs, rfl, q, d⟩ := dx.tup s
    obtain ⟨b, us, rfl, q2, d2⟩ := dy.tup s
    obtain ⟨h1, h2, h3⟩ := h
    have ne : vs ≠ [] := fun z => h1 (by have := d.length; rw [z] at this; exact List.length_eq_zero_iff.mp this.symm)
    refine .inr (.inr (.inl ⟨a, b, vs, us, rfl, rfl, q, q2, ne, by rw [d.length, d2.length]; exact h2, ?_, ?_⟩))
    · intro e
      have : us = [] := e
      subst this
      cases d2
      rw [List.append_nil] at h3
      cases dx with
      | f dx => exact c _ _ F H h3 (Grow.refl s) dx
    · intro _ p hp
      have g := Grow.frozen s hp (.tup (vs ++ us))
      exact c _ _ _ _ h3 g (.tup (SqT.of upd_same) ((d.append d2).mono g.ff))
  · rw [dx.str, dy.str]
    exact .inr (.inr (.inr ⟨_, _, rfl, rfl, h.1, c _ _ F H h.2 (Grow.refl s) (.str _)⟩))
  · exact False.elim h
/-! ### - * // % ** << -/
theorem ok_sub : Op2Ok K bSub (rI0 fun i j => .int (i - j)) := by
  intro F H vx vy x y k Q s dx dy h c
  unfold bSub at h
  split at h
  · rw [dx.int, dy.int]
    exact ⟨_, _, rfl, rfl, c _ _ F H h (Grow.refl s) (.int _)⟩
  · exact False.elim h
theorem op_mulI : OpR X (binaryOp .Mult) (rI IntMulOk fun i j => .int (i * j)) := opI fun _ _ _ _ _ _ _ hc q => mul_int q hc
theorem ok_mulI {f : F2} (hf : ∀ x y k, f x y k → ∃ i j, x = .int i ∧ y = .int j ∧ IntMulOk i j ∧ k (.int (i * j))) : Op2Ok K f (rI IntMulOk fun i j => .int (i * j)) := by
  intro F H vx vy x y k Q s dx dy h c
  obtain ⟨i, j, rfl, rfl, h1, h2⟩ := hf _ _ _ h
  rw [dx.int, dy.int]
  exact ⟨_, _, rfl, rfl, h1, c _ _ F H h2 (Grow.refl s) (.int _)⟩
theorem ok_I {f : F2} {C : Int → Int → Prop} {g : Int → Int → Int} (hf : ∀ x y k, f x y k → ∃ i j, x = .int i ∧ y = .int j ∧ C i j ∧ k (.int (g i j))) : Op2Ok K f (rI C fun i j => .int (g i j)) := by
  intro F H vx vy x y k Q s dx dy h c
  obtain ⟨i, j, rfl, rfl, h1, h2⟩ := hf _ _ _ h
  rw [dx.int, dy.int]
  exact ⟨_, _, rfl, rfl, h1, c _ _ F H h2 (Grow.refl s) (.int _)⟩
theorem ok_fdiv : Op2Ok K bFdiv (rI CDivW fun i j => .int (i / j)) := ok_I fun x y k h => by
  unfold bFdiv at h
  split at h
  · exact ⟨_, _, rfl, rfl, h⟩
  · exact False.elim h
theorem op_fdivNW : OpR X (binaryOp .FloorDiv) (rI (fun _ j => j ≠ 0 ∧ j.natAbs.log2 < 9000) fun i j => .int (i.fdiv j)) := opI fun i j _ _ _ _ _ hc q => floordiv_int hc.1 q (.inl (PyProof.noPylong_of_log2 hc.2))
theorem ok_fdivN : Op2Ok K bFdivN (rI (fun _ j => j ≠ 0 ∧ j.natAbs.log2 < 9000) fun i j => .int (i.fdiv j)) := ok_I fun x y k h => by
  unfold bFdivN at h
  split at h
  · exact ⟨_, _, rfl, rfl, h⟩
  · exact False.elim h
theorem ok_mod : Op2Ok K bMod (rI (fun _ j => 0 < j) fun i j => .int (i % j)) := ok_I fun x y k h => by
  unfold bMod at h
  split at h
  · exact ⟨_, _, rfl, rfl, h⟩
  · exact False.elim h
theorem ok_modN : Op2Ok K bModN (rI (fun _ j => j ≠ 0) fun i j => .int (i.fmod j)) := ok_I fun x y k h => by
  unfold bModN at h
  split at h
  · exact ⟨_, _, rfl, rfl, h⟩
  · exact False.elim h
theorem op_powW : OpR X (binaryOp .Pow) (rI CPowW fun i j => .int (i ^ j.toNat)) := opI fun _ _ _ _ _ _ _ hc q => pow_int hc.1 hc.2 q
theorem ok_pow : Op2Ok K bPow (rI CPowW fun i j => .int (i ^ j.toNat)) := ok_I fun x y k h => by
  unfold bPow at h
  split at h
  · exact ⟨_, _, rfl, rfl, h⟩
  · exact False.elim h
theorem ok_shl : Op2Ok K bShl (rI CPow fun i j => .int (i * 2 ^ j.toNat)) := ok_I fun x y k h => by
  unfold bShl at h
  split at h
  · exact ⟨_, _, rfl, rfl, h⟩
  · exact False.elim h
/-- a list, a tuple by an int: new ones -/
def rRepD : R2 := fun x y H Q => ∃ l k xs, x = .ref l ∧ y = .int k ∧ H l = some (.lst xs) ∧ -(2 ^ 63) ≤ k ∧ k < 2 ^ 63 ∧ xs.length * k.toNat ≤ sizeLine ∧
  ∀ p, H p = none → Q (.ref p) (upd H p (.lst (List.replicate k.toNat xs).flatten))
/-- the one of the forms that the data choose -/
def bMulI : F2
  | .int i, .int j, k => IntMulOk i j ∧ k (.int (i * j))
  | _, _, _ => False
theorem ok_mul : Op2Ok K bMulI (rI IntMulOk fun i j => .int (i * j)) := ok_mulI fun x y k h => by
  unfold bMulI at h
  split at h
  · exact ⟨_, _, rfl, rfl, h⟩
  · exact False.elim h
/-- a tuple by an int from 2 to 1000, or by 1 (the same one) -/
def bRepT : F2
  | .tuple xs, .int j, k => (xs ≠ [] ∧ 2 ≤ j ∧ j ≤ 1000 ∧ xs.length ≤ 1000) ∧ k (.tuple (List.replicate j.toNat xs).flatten)
  | _, _, _ => False
theorem ok_repT : Op2Ok K bRepT (rRepT K) := by
  intro F H vx vy x y k Q s dx dy h c
  unfold bRepT at h
  split at h
  · obtain ⟨a, vs, rfl, q, d⟩ := dx.tup s
    obtain ⟨⟨h1, h2, h3, h4⟩, h5⟩ := h
    rw [dy.int]
    refine ⟨a, _, vs, rfl, rfl, q, fun z => h1 (by have := d.length; rw [z] at this; exact List.length_eq_zero_iff.mp this.symm), h2, h3, by rw [d.length]; exact h4, fun p hp => ?_⟩
    have g := Grow.frozen s hp (.tup (List.replicate (Int.toNat ‹Int›) vs).flatten)
    exact c _ _ _ _ h5 g (.tup (SqT.of upd_same) ((DfA.replicate _ d).mono g.ff))
  · exact False.elim h

/-! ### comparisons -/
def shp (d : PD) : Prop := SeqAt.shaped d = true ∧ noDict d = true
def cEq : F2
  | .int i, .int j, k => k (.bool (decide (i = j)))
  | .str a, .str b, k => k (.bool (decide (a = b)))
  | x, y, k => shp x ∧ shp y ∧ k (.bool (PyData.eqv x y))
def cNe : F2
  | .int i, .int j, k => k (.bool (!decide (i = j)))
  | .str a, .str b, k => k (.bool (!decide (a = b)))
  | x, y, k => shp x ∧ shp y ∧ k (.bool (!PyData.eqv x y))
def rEqU (K : PySem.W.Frag) : R2 := fun x y H Q => rEq x y H Q ∨ rEqD K x y H Q
def rNeU (K : PySem.W.Frag) : R2 := fun x y H Q => rNe x y H Q ∨ rNeD K x y H Q
theorem op_eqU (hu : X.A.units + 64 < cLine) : OpR X (compareOp .Eq) (rEqU X.K) := op_eq.or (op_eqD hu)
theorem op_neU (hu : X.A.units + 64 < cLine) : OpR X (compareOp .NotEq) (rNeU X.K) := op_ne.or (op_neD hu)
theorem ok_eq : Op2Ok K cEq (rEqU K) := fun F H vx vy x y k Q s dx dy h c => by
  unfold cEq at h
  split at h
  · rw [dx.int, dy.int]
    refine .inl ⟨rfl, ?_⟩
    have := c _ _ F H h (Grow.refl s) (.bl _)
    simpa using this
  · rw [dx.str, dy.str]
    refine .inl ⟨rfl, ?_⟩
    have := c _ _ F H h (Grow.refl s) (.bl _)
    simpa using this
  · exact .inr ⟨x, y, (dx.df s).dp h.1.2, (dy.df s).dp h.2.1.2, h.1.1, h.2.1.1, c _ _ F H h.2.2 (Grow.refl s) (.bl _)⟩
theorem ok_ne : Op2Ok K cNe (rNeU K) := fun F H vx vy x y k Q s dx dy h c => by
  unfold cNe at h
  split at h
  · rw [dx.int, dy.int]
    refine .inl ⟨rfl, ?_⟩
    have := c _ _ F H h (Grow.refl s) (.bl _)
    simpa using this
  · rw [dx.str, dy.str]
    refine .inl ⟨rfl, ?_⟩
    have := c _ _ F H h (Grow.refl s) (.bl _)
    simpa using this
  · exact .inr ⟨x, y, (dx.df s).dp h.1.2, (dy.df s).dp h.2.1.2, h.1.1, h.2.1.1, c _ _ F H h.2.2 (Grow.refl s) (.bl _)⟩
def cI (p : Int → Int → Bool) : F2
  | .int i, .int j, k => k (.bool (p i j))
  | _, _, _ => False
theorem ok_cI (p : Int → Int → Bool) : Op2Ok K (cI p) (rI0 fun i j => .bl (p i j)) := by
  intro F H vx vy x y k Q s dx dy h c
  unfold cI at h
  split at h
  · rw [dx.int, dy.int]
    exact ⟨_, _, rfl, rfl, c _ _ F H h (Grow.refl s) (.bl _)⟩
  · exact False.elim h
abbrev cLt : F2 := cI fun i j => decide (i < j)
abbrev cLe : F2 := cI fun i j => decide (i ≤ j)
abbrev cGt : F2 := cI fun i j => decide (j < i)
abbrev cGe : F2 := cI fun i j => decide (j ≤ i)
/-- is None, is not None -/
def isNone : PD → Bool
  | .none => true
  | _ => false
def cIsN : F2 := fun x y k => y = .none ∧ k (.bool (isNone x))
def cNotN : F2 := fun x y k => y = .none ∧ k (.bool (!isNone x))
theorem dr_non {v : V} {x : PD} (h : Dr K F H v x) : decide (v = .non) = isNone x := by
  cases h with
  | f h => cases h <;> simp [isNone]
  | l _ _ => simp [isNone]
  | k _ _ => simp [isNone]
theorem ok_isN : Op2Ok K cIsN (fun x y H Q => y = .non ∧ Q (.bl (decide (x = .non))) H) := by
  intro F H vx vy x y k Q s dx dy ⟨h1, h2⟩ c
  subst h1
  refine ⟨dy.non, ?_⟩
  rw [dr_non dx]
  exact c _ _ F H h2 (Grow.refl s) (.bl _)
theorem ok_notN : Op2Ok K cNotN (fun x y H Q => y = .non ∧ Q (.bl (!decide (x = .non))) H) := by
  intro F H vx vy x y k Q s dx dy ⟨h1, h2⟩ c
  subst h1
  refine ⟨dy.non, ?_⟩
  rw [dr_non dx]
  exact c _ _ F H h2 (Grow.refl s) (.bl _)
/-- is True, is not True of truths -/
def cIsB : F2
  | .bool a, .bool b, k => k (.bool (decide (a = b)))
  | _, _, _ => False
def cNotB : F2
  | .bool a, .bool b, k => k (.bool (!decide (a = b)))
  | _, _, _ => False
theorem ok_isB : Op2Ok K cIsB (fun x y H Q => ∃ a b, x = .bl a ∧ y = .bl b ∧ Q (.bl (decide (a = b))) H) := by
  intro F H vx vy x y k Q s dx dy h c
  unfold cIsB at h
  split at h
  · rw [dx.bl, dy.bl]
    exact ⟨_, _, rfl, rfl, c _ _ F H h (Grow.refl s) (.bl _)⟩
  · exact False.elim h
theorem ok_notB : Op2Ok K cNotB (fun x y H Q => ∃ a b, x = .bl a ∧ y = .bl b ∧ Q (.bl (!decide (a = b))) H) := by
  intro F H vx vy x y k Q s dx dy h c
  unfold cNotB at h
  split at h
  · rw [dx.bl, dy.bl]
    exact ⟨_, _, rfl, rfl, c _ _ F H h (Grow.refl s) (.bl _)⟩
  · exact False.elim h
/-- flat things -/
def flatD : PD → Bool
  | .none => true
  | .bool _ => true
  | .int _ => true
  | .str _ => true
  | _ => false
theorem flat_v {v : V} {x : PD} (h : Df K F v x) (f : flatD x = true) : flatV v = true ∧ ∀ {u : V} {y : PD}, Df K F u y → flatD y = true → eqV v u = PyData.eqv x y := by
  cases h <;> simp [flatD] at f <;> refine ⟨rfl, fun {u y} g fy => ?_⟩ <;> cases g <;> first | (simp [flatD] at fy; done) | rfl | (simp [eqV, PyData.eqv])
theorem Dr.flat {v : V} {x : PD} (h : Dr K F H v x) (f : flatD x = true) : Df K F v x := by
  cases h with
  | f h => exact h
  | l _ _ => simp [flatD] at f
  | k _ _ => simp [flatD] at f
def itemsD : PD → Option (List PD)
  | .list xs => some xs
  | .tuple xs => some xs
  | _ => none
/-- in, not in a list or tuple of flat things -/
def cIn (neg : Bool) : F2 := fun x y k => flatD x = true ∧ ∃ ys, itemsD y = some ys ∧ ys.all flatD = true ∧ k (.bool (if neg then !(ys.any fun z => PyData.eqv z x) else ys.any fun z => PyData.eqv z x))
theorem flat_all {vs : List V} {ys : List PD} (h : DfA K F vs ys) (f : ys.all flatD = true) : vs.all flatV = true ∧ ∀ {u : V} {y : PD}, Df K F u y → flatD y = true → (vs.any fun z => eqV z u) = ys.any fun z => PyData.eqv z y := by
  induction vs generalizing ys with
  | nil => cases h; exact ⟨rfl, fun _ _ => rfl⟩
  | cons v vs ih =>
    cases h with
    | cons a b =>
      rw [List.all_cons, Bool.and_eq_true] at f
      obtain ⟨h1, h2⟩ := flat_v a f.1
      obtain ⟨h3, h4⟩ := ih b f.2
      refine ⟨by rw [List.all_cons, h1, h3]; rfl, fun {u y} g fy => ?_⟩
      rw [List.any_cons, List.any_cons, h2 g fy, h4 g fy]
theorem ok_in (neg : Bool) : Op2Ok K (cIn neg) (rIn K neg) := by
  intro F H vx vy x y k Q s dx dy ⟨fx, ys, ey, fy, h⟩ c
  have dx' := dx.flat fx
  obtain ⟨b, vs, rfl, q, d⟩ : ∃ b vs, vy = .ref b ∧ (SqL K H b vs ∨ SqT K H b vs) ∧ DfA K F vs ys := by
    cases y <;> simp [itemsD] at ey
    · subst ey
      obtain ⟨b, vs, e, q, d⟩ := dy.lst s
      exact ⟨b, vs, e, .inl (rdSq q), d⟩
    · subst ey
      obtain ⟨b, vs, e, q, d⟩ := dy.tup s
      exact ⟨b, vs, e, .inr q, d⟩
  obtain ⟨a1, a2⟩ := flat_all d fy
  refine ⟨b, vs, rfl, q, (flat_v dx' fx).1, a1, ?_⟩
  have e := a2 dx' fx
  unfold inV
  rw [e]
  exact c _ _ F H h (Grow.refl s) (.bl _)
end
end DL
/-! The data layer, part d: the other expressions, tests, calls of built-ins. -/
namespace DL
open PySem L2 PyProof.Rows

section
variable {G : Gm} {X : Cx} {K : PySem.W.Frag} {F F' H H' : Hp} {ρ : En} {σ : L2.St} {e e2 e3 : Expr} {es : List Expr} {pos : Pos} {r r' : R2} {f f' : F2} {oa ob oc : Op1} {ta tb tc : TD} {t u : TTd}

/-! ### not, -, tests -/
def dNeg (o : Op1) : TD := fun ρ Q => o.run ρ fun a ρ1 => res1 ρ1 a fun x => match x with
  | .int i => Q (.int (-i)) ρ1
  | _ => False
theorem LD.neg [Pn] (h : LO X e oa) : LD X (.UnaryOp .USub e pos) (dNeg oa) := ⟨peImp (pe_un un_neg h.p) fun σ H Q ⟨G, ρ, F, Q', R, q, c⟩ => ⟨G, ρ, F, _, R, q, fun a ρ1 v H1 F1 h1 R1 s1 av => by
  obtain ⟨x, h2, d⟩ := res1_dr R1 av h1
  split at h2
  · rw [d.int]
    exact ⟨_, rfl, c _ _ _ _ _ h2 R1 s1 (.int _)⟩
  · exact False.elim h2⟩⟩
def tVal (t : TD) : TTd := fun ρ Q => t ρ fun x ρ1 => match x with
  | .bool b => Q b ρ1
  | _ => False
theorem LT.val [Pn] (h : LD X e ta) (he : ∀ whole, isTrue e X.env whole = (do let v ← whole; standAt e.pos; holding [v] (truthy v)) := by intro _; rfl) : LT X e (tVal ta) := ⟨ptImp (pt_val h.p he) fun σ H Q ⟨G, ρ, F, Q', R, q, c⟩ => ⟨G, ρ, F, _, R, q, fun x ρ1 v H1 F1 h1 R1 s1 d => by
  split at h1
  · cases d
    exact ⟨_, rfl, c _ _ _ _ h1 R1 s1⟩
  · exact False.elim h1⟩⟩
/-- two ways -/
def brB (b : Bool) (p q : Prop) : Prop := (b = true → p) ∧ (b = false → q)
def tAndD (t u : TTd) : TTd := fun ρ Q => t ρ fun b ρ1 => brB b (u ρ1 Q) (Q false ρ1)
def tOrD (t u : TTd) : TTd := fun ρ Q => t ρ fun b ρ1 => brB b (Q true ρ1) (u ρ1 Q)
def tNotD (t : TTd) : TTd := fun ρ Q => t ρ fun b ρ1 => Q (!b) ρ1
theorem LW.and1 [Pn] (h : LT X e t) : LW X (.BoolOp .And [e] pos) t := ⟨pw_and1 h.p⟩
theorem LW.or1 [Pn] (h : LT X e t) : LW X (.BoolOp .Or [e] pos) t := ⟨pw_or1 h.p⟩
theorem LW.and [Pn] (h : LT X e t) (h2 : LW X (.BoolOp .And (e2 :: es) pos) u) : LW X (.BoolOp .And (e :: e2 :: es) pos) (tAndD t u) := ⟨pwImp (pw_and h.p h2.p) fun σ H Q ⟨G, ρ, F, Q', R, q, c⟩ => ⟨G, ρ, F, _, R, q, fun b ρ1 H1 F1 h1 R1 s1 => by
  cases b with
  | true => exact ⟨G, ρ1, F1, Q', R1, h1.1 rfl, fun b ρ2 H2 F2 h2 R2 s2 => c _ _ _ _ h2 R2 (s1.trans s2)⟩
  | false => exact c _ _ _ _ (h1.2 rfl) R1 s1⟩⟩
theorem LW.or [Pn] (h : LT X e t) (h2 : LW X (.BoolOp .Or (e2 :: es) pos) u) : LW X (.BoolOp .Or (e :: e2 :: es) pos) (tOrD t u) := ⟨pwImp (pw_or h.p h2.p) fun σ H Q ⟨G, ρ, F, Q', R, q, c⟩ => ⟨G, ρ, F, _, R, q, fun b ρ1 H1 F1 h1 R1 s1 => by
  cases b with
  | false => exact ⟨G, ρ1, F1, Q', R1, h1.2 rfl, fun b ρ2 H2 F2 h2 R2 s2 => c _ _ _ _ h2 R2 (s1.trans s2)⟩
  | true => exact c _ _ _ _ (h1.1 rfl) R1 s1⟩⟩
theorem LT.w [Pn] (h : LW X e t) : LT X e t := ⟨h.p.pt⟩
theorem LT.not [Pn] (h : LT X e t) : LT X (.UnaryOp .Not e pos) (tNotD t) := ⟨ptImp (pt_not h.p) fun σ H Q ⟨G, ρ, F, Q', R, q, c⟩ => ⟨G, ρ, F, _, R, q, fun b ρ1 H1 F1 h1 R1 s1 => c _ _ _ _ h1 R1 s1⟩⟩
/-- and, or, not as values -/
def dAnd (ta tb : TD) : TD := fun ρ Q => ta ρ fun x ρ1 => match x with
  | .bool b => brB b (tb ρ1 Q) (Q (.bool false) ρ1)
  | _ => False
def dOr (ta tb : TD) : TD := fun ρ Q => ta ρ fun x ρ1 => match x with
  | .bool b => brB b (Q (.bool true) ρ1) (tb ρ1 Q)
  | _ => False
def dNot (ta : TD) : TD := fun ρ Q => ta ρ fun x ρ1 => match x with
  | .bool b => Q (.bool (!b)) ρ1
  | _ => False
theorem LD.one [Pn] {op : BoolOp} (h : LD X e ta) : LD X (.BoolOp op [e] pos) ta := ⟨pe_one h.p⟩
theorem LD.and [Pn] (h : LD X e ta) (h2 : LD X (.BoolOp .And (e2 :: es) pos) tb) : LD X (.BoolOp .And (e :: e2 :: es) pos) (dAnd ta tb) := ⟨peImp (pe_and h.p h2.p) fun σ H Q ⟨G, ρ, F, Q', R, q, c⟩ => ⟨G, ρ, F, _, R, q, fun x ρ1 v H1 F1 h1 R1 s1 d => by
  split at h1
  · rename_i b
    cases d
    refine ⟨b, rfl, ?_⟩
    cases b with
    | true => exact ⟨G, ρ1, F1, Q', R1, h1.1 rfl, fun x ρ2 v H2 F2 h2 R2 s2 d => c _ _ _ _ _ h2 R2 (s1.trans s2) d⟩
    | false => exact c _ _ _ _ _ (h1.2 rfl) R1 s1 (.bl _)
  · exact False.elim h1⟩⟩
theorem LD.or [Pn] (h : LD X e ta) (h2 : LD X (.BoolOp .Or (e2 :: es) pos) tb) : LD X (.BoolOp .Or (e :: e2 :: es) pos) (dOr ta tb) := ⟨peImp (pe_or h.p h2.p) fun σ H Q ⟨G, ρ, F, Q', R, q, c⟩ => ⟨G, ρ, F, _, R, q, fun x ρ1 v H1 F1 h1 R1 s1 d => by
  split at h1
  · rename_i b
    cases d
    refine ⟨b, rfl, ?_⟩
    cases b with
    | false => exact ⟨G, ρ1, F1, Q', R1, h1.2 rfl, fun x ρ2 v H2 F2 h2 R2 s2 d => c _ _ _ _ _ h2 R2 (s1.trans s2) d⟩
    | true => exact c _ _ _ _ _ (h1.1 rfl) R1 s1 (.bl _)
  · exact False.elim h1⟩⟩
theorem LD.not [Pn] (h : LD X e ta) : LD X (.UnaryOp .Not e pos) (dNot ta) := ⟨peImp (pe_not h.p) fun σ H Q ⟨G, ρ, F, Q', R, q, c⟩ => ⟨G, ρ, F, _, R, q, fun x ρ1 v H1 F1 h1 R1 s1 d => by
  split at h1
  · cases d
    exact ⟨_, rfl, c _ _ _ _ _ h1 R1 s1 (.bl _)⟩
  · exact False.elim h1⟩⟩
/-- a if t else b -/
def dIte (t : TTd) (ta tb : TD) : TD := fun ρ Q => t ρ fun b ρ1 => brB b (ta ρ1 Q) (tb ρ1 Q)
theorem LD.ite [Pn] (h : LT X e t) (h2 : LD X e2 ta) (h3 : LD X e3 tb) : LD X (.IfExp e e2 e3 pos) (dIte t ta tb) := ⟨peImp (pe_ifExp h.p h2.p h3.p) fun σ H Q ⟨G, ρ, F, Q', R, q, c⟩ => ⟨G, ρ, F, _, R, q, fun b ρ1 H1 F1 h1 R1 s1 => by
  cases b with
  | true => exact ⟨G, ρ1, F1, Q', R1, h1.1 rfl, fun x ρ2 v H2 F2 h2 R2 s2 d => c _ _ _ _ _ h2 R2 (s1.trans s2) d⟩
  | false => exact ⟨G, ρ1, F1, Q', R1, h1.2 rfl, fun x ρ2 v H2 F2 h2 R2 s2 d => c _ _ _ _ _ h2 R2 (s1.trans s2) d⟩⟩⟩
/-- a < b < c of ints -/
def dChain (p p' : Int → Int → Bool) (oa ob oc : Op1) : TD := fun ρ Q => oa.run ρ fun a ρ1 => ob.run ρ1 fun b ρ2 => res1 ρ2 a fun x => res1 ρ2 b fun y => match x, y with
  | .int i, .int j => brB (p i j) (oc.run ρ2 fun cc ρ3 => res1 ρ3 cc fun z => (match z with
    | .int k => Q (.bool (p' j k)) ρ3
    | _ => False)) (Q (.bool false) ρ2)
  | _, _ => False
theorem tChain_of [Pn] {p p' : Int → Int → Bool} {Q : VK} (h : liftD K (dChain p p' oa ob oc) σ H Q) : tChain (rI0 fun i j => .bl (p i j)) (rI0 fun i j => .bl (p' i j)) (liftO K oa) (liftO K ob) (liftO K oc) σ H Q :=
  let ⟨G, ρ, F, Q', R, q, c⟩ := h
  ⟨G, ρ, F, _, R, q, fun a ρ1 vx H1 F1 h1 R1 s1 ax => ⟨G, ρ1, F1, _, R1, h1, fun b ρ2 vy H2 F2 h2 R2 s2 ay => by
    obtain ⟨x, h3, dx⟩ := res1_dr R2 (ax.mono s2) h2
    obtain ⟨y, h4, dy⟩ := res1_dr R2 ay h3
    split at h4
    · rename_i i j
      rw [dx.int, dy.int]
      refine ⟨i, j, rfl, rfl, _, rfl, ?_⟩
      cases hp : p i j with
      | true =>
        replace h4 := h4.1 hp
        refine iteT ⟨G, ρ2, F2, _, R2, h4, fun cc ρ3 vz H3 F3 h5 R3 s3 az => ?_⟩
        obtain ⟨z, h6, dz⟩ := res1_dr R3 az h5
        split at h6
        · rw [dz.int]
          exact ⟨_, _, rfl, rfl, c _ _ _ _ _ h6 R3 ((s1.trans s2).trans s3) (.bl _)⟩
        · exact False.elim h6
      | false =>
        replace h4 := h4.2 hp
        exact iteF (c _ _ _ _ _ h4 R2 (s1.trans s2) (.bl _))
    · exact False.elim h4⟩⟩
theorem LD.chain [Pn] {op op' : CmpOp} {p p' : Int → Int → Bool} (ho : OpR X (compareOp op) (rI0 fun i j => .bl (p i j))) (ho' : OpR X (compareOp op') (rI0 fun i j => .bl (p' i j))) (ha : LO X e oa) (hb : LO X e2 ob) (hc : LO X e3 oc)
    (hm : lastMarks [op, op'] [e2, e3] = false := by with_unfolding_all rfl) : LD X (.Compare e [op, op'] [e2, e3] pos) (dChain p p' oa ob oc) :=
  ⟨peImp (pe_chain ho ho' ha.p hb.p hc.p hm) fun _ _ _ h => tChain_of h⟩

/-! ### calls of built-ins -/
abbrev FN := List PD → (PD → Prop) → Prop
def BiOk (K : PySem.W.Frag) (f : FN) (r : List V → Hp → VK → Prop) : Prop := ∀ (F H : Hp) (vs : List V) (xs : List PD) (k : PD → Prop) (Q : VK), Same F H → DrA K F H vs xs → f xs k →
  (∀ z v F' H', k z → Grow F H F' H' → Df K F' v z → Q v H') → r vs H Q
def dBi (f : FN) (t : TAd) : TD := fun ρ Q => t ρ fun as ρ1 => resA ρ1 as fun xs => f xs fun z => Q z ρ1
variable {g : FN} {rr : List V → Hp → VK → Prop} {tt : TAd} {x : Str} {p : Pos} {bid T : String}
theorem tCB_of [Pn] (hf : BiOk K g rr) {n : Nat} {Q : VK} (h : liftD K (dBi g tt) σ H Q) : tCB rr (liftA K n tt) σ H Q := by
  obtain ⟨G, ρ, F, Q', R, q, c⟩ := h
  refine ⟨G, ρ, F, _, R, q, fun as ρ1 vs H1 F1 h1 hl R1 s1 av => ?_⟩
  obtain ⟨xs, h2, d⟩ := resA_dr R1 av h1
  exact hf F1 H1 vs xs _ Q R1.fh d h2 fun z v F' H' kz g' d' => c _ _ _ _ _ kz (R1.grow g') (s1.trans g'.ff) d'
theorem LD.bi [Pn] (hc : CallR X (.builtin bid) rr) (hf : BiOk X.K g rr) (hg : Gl X x) (hm : X.mg x = none) (hv : bootBuiltins x = some (.builtin bid)) (ha : LA X (e :: es) tt) (hn : x ≠ "__name__" := by decide) (hdb : (x == ("__debug__" : Str)) = false := by decide)
    (he : starEach (e :: es) X.env = (false, eval e X.env) :: starEach es X.env := by rfl) (hpl : (backTo pos (starEach es X.env)).any (·.1) = false := by rfl) :
    LD X (.Call (.Name x p) (e :: es) [] pos) (dBi g tt) := ⟨peImp (pe_callB hc hg hm hv ha.p hn hdb he hpl) fun _ _ _ h => tCB_of hf h⟩
theorem LD.bt [Pn] (hc : CallR X (.type T) rr) (hf : BiOk X.K g rr) (hg : Gl X x) (hm : X.mg x = none) (hv : bootBuiltins x = some (.type T)) (ha : LA X (e :: es) tt) (hn : x ≠ "__name__" := by decide) (hdb : (x == ("__debug__" : Str)) = false := by decide)
    (he : starEach (e :: es) X.env = (false, eval e X.env) :: starEach es X.env := by rfl) (hpl : (backTo pos (starEach es X.env)).any (·.1) = false := by rfl) :
    LD X (.Call (.Name x p) (e :: es) [] pos) (dBi g tt) := ⟨peImp (pe_callTy hc hg hm hv ha.p hn hdb he hpl) fun _ _ _ h => tCB_of hf h⟩

theorem DrA.one {vs : List V} {x : PD} (h : DrA K F H vs [x]) : ∃ v, vs = [v] ∧ Dr K F H v x := by
  cases h with | cons a b => cases b; exact ⟨_, rfl, a⟩
theorem DrA.two {vs : List V} {x y : PD} (h : DrA K F H vs [x, y]) : ∃ v u, vs = [v, u] ∧ Dr K F H v x ∧ Dr K F H u y := by
  cases h with | cons a b => cases b with | cons b c => cases c; exact ⟨_, _, rfl, a, b⟩
def bLen : FN
  | [.list xs], k => k (.int (xs.length : Int))
  | [.tuple xs], k => k (.int (xs.length : Int))
  | [.str s], k => s.length ≤ sizeLine ∧ k (.int (s.length : Int))
  | _, _ => False
def rLenD (K : PySem.W.Frag) : List V → Hp → VK → Prop := fun xs H Q => (∃ p ys, xs = [.ref p] ∧ (SqL K H p ys ∨ SqT K H p ys) ∧ Q (.int ys.length) H) ∨ (∃ z, xs = [.str z] ∧ z.length ≤ sizeLine ∧ Q (.int z.length) H)
theorem call_lenU : CallR X (.builtin "len") (rLenD X.K) := fun pins s σ H xs us Q I r h => h.elim (fun h => call_len_seq pins s σ H xs us Q I r h) fun h => call_len_str pins s σ H xs us Q I r h
theorem ok_len : BiOk K bLen (rLenD K) := by
  intro F H vs xs k Q s d h c
  unfold bLen at h
  split at h
  · obtain ⟨v, rfl, d1⟩ := d.one
    obtain ⟨a, us, rfl, q, d3⟩ := d1.lst s
    refine .inl ⟨a, us, rfl, .inl (rdSq q), ?_⟩
    rw [d3.length]
    exact c _ _ F H h (Grow.refl s) (.int _)
  · obtain ⟨v, rfl, d1⟩ := d.one
    obtain ⟨a, us, rfl, q, d3⟩ := d1.tup s
    refine .inl ⟨a, us, rfl, .inr q, ?_⟩
    rw [d3.length]
    exact c _ _ F H h (Grow.refl s) (.int _)
  · obtain ⟨v, rfl, d1⟩ := d.one
    rw [d1.str]
    exact .inr ⟨_, rfl, h.1, c _ _ F H h.2 (Grow.refl s) (.int _)⟩
  · exact False.elim h
def bAbs : FN
  | [.int i], k => k (.int (if i < 0 then -i else i))
  | _, _ => False
theorem ok_abs : BiOk K bAbs (fun xs H Q => ∃ i, xs = [.int i] ∧ Q (.int (if i < 0 then -i else i)) H) := by
  intro F H vs xs k Q s d h c
  unfold bAbs at h
  split at h
  · obtain ⟨v, rfl, d1⟩ := d.one
    rw [d1.int]
    exact ⟨_, rfl, c _ _ F H h (Grow.refl s) (.int _)⟩
  · exact False.elim h
def bInt : FN
  | [.int i], k => k (.int i)
  | [.bool b], k => k (.int (if b then 1 else 0))
  | _, _ => False
theorem ok_int : BiOk K bInt (fun xs H Q => (∃ i, xs = [.int i] ∧ Q (.int i) H) ∨ ∃ k, xs = [.bl k] ∧ Q (.int (if k then 1 else 0)) H) := by
  intro F H vs xs k Q s d h c
  unfold bInt at h
  split at h
  · obtain ⟨v, rfl, d1⟩ := d.one
    rw [d1.int]
    exact .inl ⟨_, rfl, c _ _ F H h (Grow.refl s) (.int _)⟩
  · obtain ⟨v, rfl, d1⟩ := d.one
    rw [d1.bl]
    exact .inr ⟨_, rfl, c _ _ F H h (Grow.refl s) (.int _)⟩
  · exact False.elim h
def bMax2 : FN
  | [.int i, .int j], k => k (.int (if j > i then j else i))
  | _, _ => False
def bMin2 : FN
  | [.int i, .int j], k => k (.int (if j < i then j else i))
  | _, _ => False
theorem ok_max2 : BiOk K bMax2 (fun xs H Q => ∃ i j, xs = [.int i, .int j] ∧ Q (.int (if j > i then j else i)) H) := by
  intro F H vs xs k Q s d h c
  unfold bMax2 at h
  split at h
  · obtain ⟨v, u, rfl, d1, d2⟩ := d.two
    rw [d1.int, d2.int]
    exact ⟨_, _, rfl, c _ _ F H h (Grow.refl s) (.int _)⟩
  · exact False.elim h
theorem ok_min2 : BiOk K bMin2 (fun xs H Q => ∃ i j, xs = [.int i, .int j] ∧ Q (.int (if j < i then j else i)) H) := by
  intro F H vs xs k Q s d h c
  unfold bMin2 at h
  split at h
  · obtain ⟨v, u, rfl, d1, d2⟩ := d.two
    rw [d1.int, d2.int]
    exact ⟨_, _, rfl, c _ _ F H h (Grow.refl s) (.int _)⟩
  · exact False.elim h
/-- lists of ints -/
def bSum : FN
  | [.list xs], k => ∃ ns : List Int, xs = ns.map .int ∧ k (.int ns.sum)
  | _, _ => False
theorem dfa_ints {vs : List V} {ns : List Int} (h : DfA K F vs (ns.map .int)) : vs = ns.map V.int := by
  induction ns generalizing vs with
  | nil => cases h; rfl
  | cons n r ih =>
    cases h with
    | cons a b => cases a; rw [ih b]; rfl
theorem dfa_bools {vs : List V} {ns : List Bool} (h : DfA K F vs (ns.map .bool)) : vs = ns.map V.bl := by
  induction ns generalizing vs with
  | nil => cases h; rfl
  | cons n r ih =>
    cases h with
    | cons a b => cases a; rw [ih b]; rfl
theorem Dr.intList {v : V} {ns : List Int} (s : Same F H) (h : Dr K F H v (.list (ns.map .int))) : ∃ a, v = .ref a ∧ SqL K H a (ns.map V.int) := by
  obtain ⟨a, vs, rfl, q, d⟩ := h.lst s
  rw [dfa_ints d] at q
  exact ⟨a, rfl, rdSq q⟩
theorem ok_sum : BiOk K bSum (rSum K) := by
  intro F H vs xs k Q s d h c
  unfold bSum at h
  split at h
  · obtain ⟨v, rfl, d1⟩ := d.one
    obtain ⟨ns, rfl, h⟩ := h
    obtain ⟨a, rfl, q⟩ := d1.intList s
    exact ⟨a, ns, rfl, q, c _ _ F H h (Grow.refl s) (.int _)⟩
  · exact False.elim h
def bMax1 : FN
  | [.list xs], k => ∃ ns : List Int, xs = ns.map .int ∧ 0 < ns.length ∧ ∀ m, m ∈ ns → (∀ y, y ∈ ns → y ≤ m) → k (.int m)
  | _, _ => False
def bMin1 : FN
  | [.list xs], k => ∃ ns : List Int, xs = ns.map .int ∧ 0 < ns.length ∧ ∀ m, m ∈ ns → (∀ y, y ∈ ns → m ≤ y) → k (.int m)
  | _, _ => False
theorem ok_max1 : BiOk K bMax1 (rMax K) := by
  intro F H vs xs k Q s d h c
  unfold bMax1 at h
  split at h
  · obtain ⟨v, rfl, d1⟩ := d.one
    obtain ⟨ns, rfl, h1, h⟩ := h
    obtain ⟨a, rfl, q⟩ := d1.intList s
    exact ⟨a, ns, rfl, q, h1, fun m h2 h3 => c _ _ F H (h m h2 h3) (Grow.refl s) (.int _)⟩
  · exact False.elim h
theorem ok_min1 : BiOk K bMin1 (rMin K) := by
  intro F H vs xs k Q s d h c
  unfold bMin1 at h
  split at h
  · obtain ⟨v, rfl, d1⟩ := d.one
    obtain ⟨ns, rfl, h1, h⟩ := h
    obtain ⟨a, rfl, q⟩ := d1.intList s
    exact ⟨a, ns, rfl, q, h1, fun m h2 h3 => c _ _ F H (h m h2 h3) (Grow.refl s) (.int _)⟩
  · exact False.elim h
def bAll : FN
  | [.list xs], k => ∃ bs : List Bool, xs = bs.map .bool ∧ k (.bool (bs.all id))
  | _, _ => False
theorem ok_all : BiOk K bAll (rAll K) := by
  intro F H vs xs k Q s d h c
  unfold bAll at h
  split at h
  · obtain ⟨v, rfl, d1⟩ := d.one
    obtain ⟨bs, rfl, h⟩ := h
    obtain ⟨a, us, rfl, q, d3⟩ := d1.lst s
    rw [dfa_bools d3] at q
    exact ⟨a, bs, rfl, rdSq q, c _ _ F H h (Grow.refl s) (.bl _)⟩
  · exact False.elim h
def bSortI : FN
  | [.list xs], k => ∃ ns : List Int, xs = ns.map .int ∧ ∀ ns' : List Int, ns'.Perm ns → ns'.Pairwise (· ≤ ·) → k (.list (ns'.map .int))
  | _, _ => False
theorem ok_sortI : BiOk K bSortI (rSortedI K) := by
  intro F H vs xs k Q s d h c
  unfold bSortI at h
  split at h
  · obtain ⟨v, rfl, d1⟩ := d.one
    obtain ⟨ns, rfl, h⟩ := h
    obtain ⟨a, rfl, q⟩ := d1.intList s
    refine ⟨a, ns, rfl, q, fun ns' p h1 h2 hp => ?_⟩
    have g := Grow.frozen s hp (.lst (ns'.map V.int))
    exact c _ _ _ _ (h ns' h1 h2) g (.lst (.inl upd_same) (DfA.ints ns'))
  · exact False.elim h
/-- tuple of a list (new), of a tuple (the same) -/
def bTuple : FN
  | [.list xs], k => k (.tuple xs)
  | [.tuple xs], k => k (.tuple xs)
  | _, _ => False
theorem ok_tuple : BiOk K bTuple (fun xs H Q => ∃ p ys, xs = [.ref p] ∧ ((SqL K H p ys ∧ ∀ l, H l = none → Q (.ref l) (upd H l (.tup ys))) ∨ (SqT K H p ys ∧ Q (.ref p) H))) := by
  intro F H vs xs k Q s d h c
  unfold bTuple at h
  split at h
  · obtain ⟨v, rfl, d1⟩ := d.one
    obtain ⟨a, us, rfl, q, d3⟩ := d1.lst s
    refine ⟨a, us, rfl, .inl ⟨rdSq q, fun l hl => ?_⟩⟩
    have g := Grow.frozen s hl (.tup us)
    exact c _ _ _ _ h g (.tup (SqT.of upd_same) (d3.mono g.ff))
  · obtain ⟨v, rfl, d1⟩ := d.one
    obtain ⟨a, us, rfl, q, d3⟩ := d1.tup s
    cases d1 with
    | f d => exact ⟨a, us, rfl, .inr ⟨q, c _ _ F H h (Grow.refl s) d⟩⟩
  · exact False.elim h
/-- list of a list or a tuple: a new list of one's own -/
def fList (t : TAd) : TF := fun ρ Q => t ρ fun as ρ1 => resA ρ1 as fun xs => match xs with
  | [.list ys] => Q (.ls none ys) ρ1
  | [.tuple ys] => Q (.ls none ys) ρ1
  | _ => False
theorem LF.list [Pn] (hg : Gl X "list") (hm : X.mg "list" = none) (ha : LA X (e :: es) tt)
    (he : starEach (e :: es) X.env = (false, eval e X.env) :: starEach es X.env := by rfl) (hpl : (backTo pos (starEach es X.env)).any (·.1) = false := by rfl) :
    LF X (.Call (.Name "list" p) (e :: es) [] pos) (fList tt) := ⟨peImp (pe_callTy call_list_of hg hm (by decide +kernel) ha.p (by decide) (by decide) he hpl) fun σ H Q ⟨G, ρ, F, Q', R, q, c⟩ => ⟨G, ρ, F, _, R, q, fun as ρ1 vs H1 F1 h1 hl R1 s1 av => by
  obtain ⟨xs, h2, d⟩ := resA_dr R1 av h1
  split at h2
  · obtain ⟨v, rfl, d1⟩ := d.one
    obtain ⟨a, us, rfl, q, d3⟩ := d1.lst R1.fh
    refine ⟨a, us, rfl, .inl (rdSq q), fun l hl => ?_⟩
    obtain ⟨R2, k⟩ := fresh_ok (l := .ls none _) (o := .lst us) R1 hl d3 rfl
    exact c _ _ _ _ _ h2 R2 s1 k
  · obtain ⟨v, rfl, d1⟩ := d.one
    obtain ⟨a, us, rfl, q, d3⟩ := d1.tup R1.fh
    refine ⟨a, us, rfl, .inr q, fun l hl => ?_⟩
    obtain ⟨R2, k⟩ := fresh_ok (l := .ls none _) (o := .lst us) R1 hl d3 rfl
    exact c _ _ _ _ _ h2 R2 s1 k
  · exact False.elim h2⟩⟩
/-- a list by an int: a new list of one's own -/
theorem op_repD : OpR X (binaryOp .Mult) rRep := op_rep
def fRep (oa ob : Op1) : TF := fun ρ Q => oa.run ρ fun a ρ1 => ob.run ρ1 fun b ρ2 => res1 ρ2 a fun x => res1 ρ2 b fun y => match x, y with
  | .list xs, .int j => (0 ≤ j ∧ j < 2 ^ 60 ∧ xs.length * j.toNat ≤ sizeLine) ∧ Q (.ls none (List.replicate j.toNat xs).flatten) ρ2
  | _, _ => False
theorem LF.rep [Pn] {tl : TAd} (ha : LA X es tl) (hb : LO X e2 ob) (hn : es.length ≤ 100000 := by decide) : LF X (.BinOp (.List es p) .Mult e2 pos) (fRep (.e (dFz (fLst tl))) ob) :=
  ⟨peImp (pe_op op_rep (pe_lst ha.p) hb.p) fun σ H Q ⟨G, ρ, F, Q', R, q, c⟩ => ⟨G, ρ, F, _, R, q, fun as ρ1 vs H1 F1 h1 hl R1 s1 a1 => by
    obtain ⟨xs, h2, d⟩ := resFA_df R1 a1 h1
    refine ⟨Nat.le_trans (by rw [← a1.length, hl]; exact hn) (by decide), fun p hp => ?_⟩
    have g := Grow.frozen R1.fh hp (.lst vs)
    have R2 := R1.grow g
    have h2 : ob.run ρ1 _ := h2
    refine ⟨G, ρ1, _, _, R2, h2, fun b ρ2 vy H2 F2 h3 R3 s3 ay => ?_⟩
    have h3 : res1 ρ2 b _ := h3
    obtain ⟨y, h4, dy⟩ := res1_dr R3 ay h3
    split at h4
    · rename_i xs' j e1
      cases e1
      rw [dy.int]
      obtain ⟨⟨g1, g2, g3⟩, h5⟩ := h4
      have hH2 : H2 p = some (.lst vs) := R3.fh _ _ (s3 _ _ upd_same)
      refine ⟨p, j, vs, rfl, rfl, hH2, by omega, by omega, by rw [d.length]; exact g3, fun q hq => ?_⟩
      obtain ⟨R4, kk⟩ := fresh_ok (l := .ls none _) (o := .lst _) R3 hq (DfA.replicate j.toNat (d.mono (g.ff.trans s3))) rfl
      exact c _ _ _ _ _ h5 R4 ((s1.trans g.ff).trans s3) kk
    · exact False.elim h4⟩⟩

/-! ### isinstance of a built-in type -/
def isTy (T : String) : PD → Bool
  | .none => false
  | .bool _ => T == "bool" || T == "int"
  | .int _ => T == "int"
  | .str _ => T == "str"
  | .list _ => T == "list"
  | .tuple _ => T == "tuple"
  | .dict _ => false
def tyD : PD → String
  | .none => "NoneType"
  | .bool _ => "bool"
  | .int _ => "int"
  | .str _ => "str"
  | .list _ => "list"
  | .tuple _ => "tuple"
  | .dict _ => "dict"
def plainD : PD → Bool
  | .dict _ => false
  | _ => true
def dIsi (T : String) (o : Op1) : TD := fun ρ Q => o.run ρ fun a ρ1 => res1 ρ1 a fun x => plainD x = true ∧ Q (.bool (isTy T x)) ρ1
theorem tyx_of {v : V} {x : PD} (h : Df K H v x) (hd : plainD x = true) : TyX K H v (.type (tyD x)) := by
  cases h with
  | non => exact .base .non
  | bl b => exact .base (.bl b)
  | int i => exact .base (.int i)
  | str i => exact .base (.str i)
  | lst q _ =>
    rcases q with q | ⟨o, q⟩
    · exact .base (.lst q)
    · exact .base (.frz q)
  | tup q _ =>
    rcases q with (q | ⟨o, q⟩) | ⟨o, its, n, q, cl, _⟩
    · exact .base (.tup q)
    · exact .fTuple q
    · exact .kTuple q cl
  | dk _ _ => cases hd
  | ins _ _ => cases hd
  | ex0 => cases hd
  | ex1 _ _ => cases hd
  | dkL _ _ => cases hd
  | ky _ => cases hd
theorem kit_all {x : PD} {T : String} (hT : T = "int" ∨ T = "bool" ∨ T = "str" ∨ T = "tuple" ∨ T = "list") (hd : plainD x = true) : PySem.W.kitOne K (.type (tyD x)) (.type T) = some (isTy T x) := by
  refine kit_ty ?_
  cases x <;> first | (cases hd; done) | skip
  all_goals (rcases hT with rfl | rfl | rfl | rfl | rfl <;> (dsimp only [tyD, isTy]; decide +kernel))
theorem LD.isi [Pn] {y : Str} {p2 : Pos} (T : String) (hT : T = "int" ∨ T = "bool" ∨ T = "str" ∨ T = "tuple" ∨ T = "list") (hg : Gl X "isinstance") (hm : X.mg "isinstance" = none) (hgT : Gl X y) (hmT : X.mg y = none) (hvT : bootBuiltins y = some (.type T)) (h : LO X e oa)
    (he : starEach [e, .Name y p2] X.env = (false, eval e X.env) :: starEach [.Name y p2] X.env := by rfl) (hpl : (backTo pos (starEach [.Name y p2] X.env)).any (·.1) = false := by rfl) (he2 : starEach [.Name y p2] X.env = (false, eval (.Name y p2) X.env) :: starEach [] X.env := by rfl)
    (hn : y ≠ "__name__" := by decide) (hdb : (y == ("__debug__" : Str)) = false := by decide) :
    LD X (.Call (.Name "isinstance" p) [e, .Name y p2] [] pos) (dIsi T oa) :=
  ⟨peImp (pe_callB call_isi hg hm (by decide +kernel) (pa_cons h.p (pa_cons (pe_bltn (v := .ty T) hgT hmT hvT rfl hn hdb) pa_nil he2) he) (by decide) (by decide) he hpl) fun σ H Q ⟨G, ρ, F, Q', R, q, c⟩ => ⟨G, ρ, F, _, R, q, fun a ρ1 v H1 F1 h1 R1 s1 av => by
    obtain ⟨x, ⟨hd, h2⟩, d⟩ := res1_dr R1 av h1
    exact ⟨v, .ty T, _, _, _, rfl, .ty T, tyx_of (d.df R1.fh) hd, kit_all hT hd, c _ _ _ _ _ h2 R1 s1 (.bl _)⟩⟩⟩

/-! ### subscripts -/
def bIx : F2
  | .list xs, .int i, k => ∃ d, atI xs i = some d ∧ k d
  | .tuple xs, .int i, k => ∃ d, atI xs i = some d ∧ k d
  | .str z, .int i, k => z.length ≤ sizeLine ∧ ∃ c, atI z.cps.toList i = some c ∧ k (.str ⟨#[c]⟩)
  | _, _, _ => False
theorem atI_df {vs : List V} {xs : List PD} {d : PD} {i : Int} (h : DfA K F vs xs) (e : atI xs i = some d) : ∃ v, atI vs i = some v ∧ Df K F v d := by
  unfold atI at e ⊢
  rw [h.length]
  cases q : ixN xs.length i with
  | none => rw [q] at e; cases e
  | some j =>
    rw [q] at e
    obtain ⟨v, h1, h2⟩ := h.get (i := j) e
    exact ⟨v, h1, h2⟩
theorem ok_ix : Op2Ok K bIx (rIx K) := by
  intro F H vx vy x y k Q s dx dy h c
  unfold bIx at h
  split at h
  · obtain ⟨a, vs, rfl, q, d⟩ := dx.lst s
    obtain ⟨z, h1, h2⟩ := h
    obtain ⟨v, h3, h4⟩ := atI_df d h1
    rw [dy.int]
    exact .inl ⟨a, vs, _, v, rfl, rfl, rdSq q, h3, c _ _ F H h2 (Grow.refl s) h4⟩
  · obtain ⟨a, vs, rfl, q, d⟩ := dx.tup s
    obtain ⟨z, h1, h2⟩ := h
    obtain ⟨v, h3, h4⟩ := atI_df d h1
    rw [dy.int]
    exact .inr (.inl ⟨a, vs, _, v, rfl, rfl, q, h3, c _ _ F H h2 (Grow.refl s) h4⟩)
  · obtain ⟨h0, z, h1, h2⟩ := h
    rw [dx.str, dy.int]
    exact .inr (.inr ⟨_, _, z, rfl, rfl, h0, h1, c _ _ F H h2 (Grow.refl s) (.str _)⟩)
  · exact False.elim h
theorem LD.ix [Pn] (ha : LO X e oa) (hb : LO X e2 ob) (hs : PlainIx e2) : LD X (.Subscript e e2 pos) (dBin bIx oa ob) := ⟨peImp (pe_ix ix_seq ha.p hb.p hs) fun _ _ _ h => tOp_of ok_ix h⟩
/-- a part of a slice -/
abbrev TPd := En → (Option Int → En → Prop) → Prop
def pNone : TPd := fun ρ Q => Q none ρ
def pSome (o : Op1) : TPd := fun ρ Q => o.run ρ fun a ρ1 => res1 ρ1 a fun x => match x with
  | .int i => Q (some i) ρ1
  | _ => False
def liftP [Pn] (K : PySem.W.Frag) (t : TPd) : TO := fun σ H Q => ∃ G ρ F Q', Rel K G ρ F σ H ∧ t ρ Q' ∧ ∀ i ρ' H' F', Q' i ρ' → Rel K G ρ' F' σ H' → Same F F' → Q i H'
structure LP [Pn] (X : Cx) (e : Option Expr) (t : TPd) : Prop where
  p : PO X e (liftP X.K t)
theorem poImp {e : Option Expr} {t t' : TO} (h : PO X e t) (w : ∀ σ H Q, t' σ H Q → t σ H Q) : PO X e t' := ⟨fun pins s σ H Q I q => h.run pins s σ H Q I (w _ _ _ q)⟩
theorem LP.none [Pn] : LP X none pNone := ⟨poImp po_none fun σ H Q ⟨G, ρ, F, Q', R, q, c⟩ => c _ _ _ F q R (Same.refl _)⟩
theorem LP.some [Pn] (h : LO X e oa) : LP X (some e) (pSome oa) := ⟨poImp (po_some h.p) fun σ H Q ⟨G, ρ, F, Q', R, q, c⟩ => ⟨G, ρ, F, _, R, q, fun a ρ1 v H1 F1 h1 R1 s1 av => by
  obtain ⟨x, h2, d⟩ := res1_dr R1 av h1
  split at h2
  · rw [d.int]
    exact ⟨_, rfl, c _ _ _ _ h2 R1 s1⟩
  · exact False.elim h2⟩⟩
def cutD {α : Type} (xs : List α) (lo hi : Option Int) : List α := (xs.drop (HT.sIx xs.length 0 lo)).take (HT.sIx xs.length xs.length hi - HT.sIx xs.length 0 lo)
def dSl (oa : Op1) (lo hi : TPd) : TD := fun ρ Q => oa.run ρ fun a ρ1 => lo ρ1 fun i ρ2 => hi ρ2 fun j ρ3 => res1 ρ3 a fun x => match x with
  | .list xs => Q (.list (cutD xs i j)) ρ3
  | .tuple xs => Q (.tuple (cutD xs i j)) ρ3
  | .str z => z.length ≤ sizeLine ∧ Q (.str (cutS z i j)) ρ3
  | _ => False
theorem cut_df {vs : List V} {xs : List PD} (h : DfA K F vs xs) (i j : Option Int) : DfA K F (cutV vs i j) (cutD xs i j) := by
  unfold cutV cutD
  rw [h.length]
  exact (h.drop _).take _
theorem cut_whole {α : Type} {xs : List α} {i j : Option Int} (h : HT.sIx xs.length 0 i = 0 ∧ HT.sIx xs.length xs.length j = xs.length) : cutD xs i j = xs := by
  unfold cutD
  rw [h.1, h.2, List.drop_zero, Nat.sub_zero, List.take_length]
theorem LD.sl [Pn] {lo hi : Option Expr} {tl th : TPd} {p2 : Pos} (ha : LO X e oa) (hl : LP X lo tl) (hh : LP X hi th) : LD X (.Subscript e (.Slice lo hi none p2) pos) (dSl oa tl th) :=
  ⟨peImp (pe_slice (sl_list.or (sl_tupA.or sl_str)) ha.p hl.p hh.p) fun σ H Q ⟨G, ρ, F, Q', R, q, c⟩ => ⟨G, ρ, F, _, R, q, fun a ρ1 v H1 F1 h1 R1 s1 av => ⟨G, ρ1, F1, _, R1, h1, fun i ρ2 H2 F2 h2 R2 s2 => ⟨G, ρ2, F2, _, R2, h2, fun j ρ3 H3 F3 h3 R3 s3 => by
    obtain ⟨x, h4, d⟩ := res1_dr R3 (av.mono (s2.trans s3)) h3
    have s := (s1.trans s2).trans s3
    split at h4
    · obtain ⟨b, vs, rfl, q, d'⟩ := d.lst R3.fh
      refine .inl ⟨b, vs, rfl, rdSq q, fun p hp => ?_⟩
      have g := Grow.frozen R3.fh hp (.lst (cutV vs i j))
      exact c _ _ _ _ _ h4 (R3.grow g) (s.trans g.ff) (.lst (.inl upd_same) ((cut_df d' i j).mono g.ff))
    · obtain ⟨b, vs, rfl, q, d'⟩ := d.tup R3.fh
      refine .inr (.inl ⟨b, vs, rfl, q, fun hw => ?_, fun _ p hp => ?_⟩)
      · have e1 : cutD _ i j = _ := cut_whole (xs := ‹List PD›) (by rw [← d'.length]; exact hw)
        rw [e1] at h4
        cases d with
        | f d => exact c _ _ _ _ _ h4 R3 s d
      · have g := Grow.frozen R3.fh hp (.tup (cutV vs i j))
        exact c _ _ _ _ _ h4 (R3.grow g) (s.trans g.ff) (.tup (SqT.of upd_same) ((cut_df d' i j).mono g.ff))
    · rw [d.str]
      exact .inr (.inr ⟨_, rfl, h4.1, c _ _ _ _ _ h4.2 R3 s (.str _)⟩)
    · exact False.elim h4⟩⟩⟩⟩
end
end DL
/-! The data layer, part e: statements, loops, comprehensions. -/
namespace DL
open PySem L2 PyProof.Rows

/-- what is wanted behind a statement -/
structure DE where
  nx : En → Prop
  rt : Lc → En → Prop
  bk : En → Prop := fun _ => False
  ct : En → Prop := fun _ => False
abbrev TSt := DE → En → Prop
structure CtOk [Pn] (K : PySem.W.Frag) (G : Gm) (F : Hp) (D' : DE) (D : Ends) : Prop where
  nx : ∀ ρ σ H F', D'.nx ρ → Rel K G ρ F' σ H → Same F F' → D.nx σ H
  rt : ∀ l ρ v σ H F', D'.rt l ρ → Rel K G ρ F' σ H → Same F F' → RsOk K G F' H ρ σ l v → D.rt v H
  bk : ∀ ρ σ H F', D'.bk ρ → Rel K G ρ F' σ H → Same F F' → D.bk σ H
  ct : ∀ ρ σ H F', D'.ct ρ → Rel K G ρ F' σ H → Same F F' → D.ct σ H
theorem CtOk.mono [Pn] {K : PySem.W.Frag} {G : Gm} {F F' : Hp} {D' : DE} {D : Ends} (c : CtOk K G F D' D) (s : Same F F') : CtOk K G F' D' D :=
  ⟨fun ρ σ H F2 h R s2 => c.nx ρ σ H F2 h R (s.trans s2), fun l ρ v σ H F2 h R s2 r => c.rt l ρ v σ H F2 h R (s.trans s2) r, fun ρ σ H F2 h R s2 => c.bk ρ σ H F2 h R (s.trans s2), fun ρ σ H F2 h R s2 => c.ct ρ σ H F2 h R (s.trans s2)⟩
def liftS [Pn] (K : PySem.W.Frag) (t : TSt) : TS := fun D σ H => ∃ G ρ F D', Rel K G ρ F σ H ∧ t D' ρ ∧ CtOk K G F D' D
structure LS [Pn] (X : Cx) (st : Stmt) (t : TSt) : Prop where
  p : PS X st (liftS X.K t)
structure LSs [Pn] (X : Cx) (st : List Stmt) (t : TSt) : Prop where
  p : PSs X st (liftS X.K t)

section
variable {G : Gm} {X : Cx} {K : PySem.W.Frag} {F F' H H' : Hp} {ρ : En} {σ : L2.St} {e e2 e3 : Expr} {es : List Expr} {pos : Pos} {oa ob oc : Op1} {ta tb : TD} {c : TTd} {st : Stmt} {sts sts2 : List Stmt} {t u : TSt} {tf tf2 : TF}

/-! ### blocks and simple statements -/
def sNext : TSt := fun D ρ => D.nx ρ
/-- the slots are written out -/
def force : En → (En → Prop) → Prop
  | [], k => k []
  | a :: r, k => force r fun r' => k (a :: r')
theorem force_eq : ∀ (ρ : En) (k : En → Prop), force ρ k = k ρ
  | [], _ => rfl
  | a :: r, k => force_eq r fun r' => k (a :: r')
def sSeq (t u : TSt) : TSt := fun D ρ => t { D with nx := fun ρ' => force ρ' fun ρ'' => u D ρ'' } ρ
theorem LSs.nil [Pn] : LSs X [] sNext := ⟨pssImp pss_nil fun D σ H ⟨G, ρ, F, D', R, h, k⟩ => k.nx _ _ _ _ h R (Same.refl _)⟩
theorem LSs.cons [Pn] (h1 : LS X st t) (h2 : LSs X sts u) : LSs X (st :: sts) (sSeq t u) := ⟨pssImp (pss_cons h1.p h2.p) fun D σ H ⟨G, ρ, F, D', R, h, k⟩ =>
  ⟨G, ρ, F, _, R, h, ⟨fun ρ1 σ1 H1 F1 h1 R1 s1 => ⟨G, ρ1, F1, D', R1, (by have h1 : force ρ1 (fun ρ'' => u D' ρ'') := h1; rw [force_eq] at h1; exact h1), k.mono s1⟩, k.rt, k.bk, k.ct⟩⟩⟩
theorem LSs.one [Pn] (h1 : LS X st t) : LSs X [st] t := ⟨pss_one h1.p⟩
theorem LS.pass [Pn] : LS X (.Pass pos) sNext := ⟨psImp ps_pass fun D σ H ⟨G, ρ, F, D', R, h, k⟩ => k.nx _ _ _ _ h R (Same.refl _)⟩
def sBrk : TSt := fun D ρ => D.bk ρ
def sCnt : TSt := fun D ρ => D.ct ρ
theorem LS.brk [Pn] : LS X (.Break pos) sBrk := ⟨psImp ps_break fun D σ H ⟨G, ρ, F, D', R, h, k⟩ => k.bk _ _ _ _ h R (Same.refl _)⟩
theorem LS.cnt [Pn] : LS X (.Continue pos) sCnt := ⟨psImp ps_continue fun D σ H ⟨G, ρ, F, D', R, h, k⟩ => k.ct _ _ _ _ h R (Same.refl _)⟩
def sDrop (t : TD) : TSt := fun D ρ => t ρ fun _ ρ1 => D.nx ρ1
theorem LS.drop [Pn] (h : LD X e ta) (hs : swapsWith e none pos.line X.env = pure false := by rfl) : LS X (.Expr e pos) (sDrop ta) := ⟨psImp (ps_expr h.p hs) fun D σ H ⟨G, ρ, F, D', R, q, k⟩ =>
  ⟨G, ρ, F, _, R, q, fun x ρ1 v H1 F1 h1 R1 s1 _ => k.nx _ _ _ _ h1 R1 s1⟩⟩
def sRet (t : TF) : TSt := fun D ρ => t ρ D.rt
theorem LS.ret [Pn] (h : LF X e tf) : LS X (.Return (some e) pos) (sRet tf) := ⟨psImp (ps_ret h.p) fun D σ H ⟨G, ρ, F, D', R, q, k⟩ =>
  ⟨G, ρ, F, _, R, q, fun l ρ1 v H1 F1 h1 R1 s1 r1 => k.rt _ _ _ _ _ _ h1 R1 s1 r1⟩⟩
def sRetN : TSt := fun D ρ => D.rt (.d .none) ρ
theorem LS.retN [Pn] : LS X (.Return none pos) sRetN := ⟨psImp ps_retN fun D σ H ⟨G, ρ, F, D', R, q, k⟩ => k.rt _ _ _ _ _ _ q R (Same.refl _) .non⟩
/-- return of a name: an own thing leaves its slot -/
def sRetV (i : Nat) : TSt := fun D ρ => match ρ[i]? with
  | some (some (.d x)) => D.rt (.d x) ρ
  | some (some l) => if (l.own && l.tag.isNone) = true then D.rt l (ρ.set i none) else False
  | _ => False
/-- an own thing that leaves its slot -/
theorem Rel.leave [Pn] {i : Nat} {l : Lc} {a : Addr} (R : Rel K G ρ F σ H) (er : ρ[i]? = some (some l)) (ho : l.own = true) (es : σ[i]? = some (some (.ref a))) : Frs K G F H (ρ.set i none) σ l a := by
  have sub : ∀ (j : Nat) (m : Lc), (ρ.set i none)[j]? = some (some m) → ρ[j]? = some (some m) ∧ j ≠ i := fun j m e => by
    rcases set_get e with ⟨_, _, w⟩ | ⟨hj, e⟩
    · cases w
    · exact ⟨e, hj⟩
  refine ⟨fun j m e hm z => (sub j m e).2 (R.ds j i m l _ (sub j m e).1 er hm ho z es), (R.noN_at er ho es).drop i, fun b xs hb => ?_⟩
  obtain ⟨n1, n2⟩ := R.ns i l b xs er hb
  exact ⟨n1, fun e => (n2 i l er).1 ho (by rw [es, e]), fun j m e hm => (n2 j m (sub j m e).1).1 hm, fun j m ys e hy => (sub j m e).2 ((n2 j m (sub j m e).1).2 ys hy)⟩
theorem LS.retV [Pn] (i : Nat) (h : PE X e (tVar i)) : LS X (.Return (some e) pos) (sRetV i) := ⟨psImp (ps_ret h) fun D σ H ⟨G, ρ, F, D', R, q, k⟩ => by
  unfold sRetV at q
  split at q
  · rename_i x er
    obtain ⟨v, e1, d⟩ := R.sl i _ er
    exact ⟨v, e1, k.rt _ _ _ _ _ _ q R (Same.refl _) d⟩
  · rename_i l nd er
    split at q
    · rename_i hz
      rw [Bool.and_eq_true] at hz
      have ht : l.tag = none := by simpa using hz.2
      obtain ⟨a, es, at_⟩ := R.at_ er hz.1
      have fr : Frs X.K G F H (ρ.set i none) σ l a := by
        have sub : ∀ (j : Nat) (m : Lc), (ρ.set i none)[j]? = some (some m) → ρ[j]? = some (some m) ∧ j ≠ i := fun j m e => by
          rcases set_get e with ⟨_, _, w⟩ | ⟨hj, e⟩
          · cases w
          · exact ⟨e, hj⟩
        refine ⟨fun j m e hm z => (sub j m e).2 (R.ds j i m l _ (sub j m e).1 er hm hz.1 z es), (R.noN_at er hz.1 es).drop i, fun b xs hb => ?_⟩
        obtain ⟨n1, n2⟩ := R.ns i l b xs er hb
        exact ⟨n1, fun e => (n2 i l er).1 hz.1 (by rw [es, e]), fun j m e hm => (n2 j m (sub j m e).1).1 hm, fun j m ys e hy => (sub j m e).2 ((n2 j m (sub j m e).1).2 ys hy)⟩
      refine ⟨_, es, k.rt l _ _ _ _ _ q (R.drop i) (Same.refl _) ?_⟩
      cases l with
      | d x => exact absurd rfl (nd x)
      | sc u => simp [Lc.own] at hz
      | _ => exact ⟨a, rfl, ht, at_, fr⟩
    · exact False.elim q
  · exact False.elim q⟩
def sIf (c : TTd) (t u : TSt) : TSt := fun D ρ => c ρ fun b ρ1 => brB b (t D ρ1) (u D ρ1)
theorem LS.ite [Pn] (h : LT X e c) (h1 : LSs X sts t) (h2 : LSs X sts2 u) : LS X (.If e sts sts2 pos) (sIf c t u) := ⟨psImp (ps_if h.p h1.p h2.p) fun D σ H ⟨G, ρ, F, D', R, q, k⟩ =>
  ⟨G, ρ, F, _, R, q, fun b ρ1 H1 F1 h1 R1 s1 => by
    cases b with
    | true => exact ⟨G, ρ1, F1, D', R1, h1.1 rfl, k.mono s1⟩
    | false => exact ⟨G, ρ1, F1, D', R1, h1.2 rfl, k.mono s1⟩⟩⟩

/-! ### stores -/
def sAsg (i : Nat) (t : TF) : TSt := fun D ρ => t ρ fun l ρ1 => D.nx (ρ1.set i (some l))
theorem RsOk.slot {l : Lc} {v : V} (h : RsOk K G F H ρ σ l v) : SlotOk K G F H l (some (some v)) ∧ (l.own = true → ∀ (j : Nat) (m : Lc), ρ[j]? = some (some m) → m.own = true → σ[j]? ≠ some (some v)) := by
  cases l with
  | d x => exact ⟨⟨v, rfl, h⟩, fun z => by cases z⟩
  | sc u => exact ⟨⟨v, rfl, h⟩, fun z => by cases z⟩
  | ls p xs => obtain ⟨a, rfl, _, z, hf⟩ := h; exact ⟨⟨a, rfl, z⟩, fun _ => hf.hf⟩
  | dk p xs => obtain ⟨a, rfl, _, z, hf⟩ := h; exact ⟨⟨a, rfl, z⟩, fun _ => hf.hf⟩
  | dt p xs => obtain ⟨a, rfl, _, z, hf⟩ := h; exact ⟨⟨a, rfl, z⟩, fun _ => hf.hf⟩
  | ob p C xs => obtain ⟨a, rfl, _, z, hf⟩ := h; exact ⟨⟨a, rfl, z⟩, fun _ => hf.hf⟩
  | nb p C fs ns => obtain ⟨a, rfl, _, z, hf⟩ := h; exact ⟨⟨a, rfl, z⟩, fun _ => hf.hf⟩
  | ln p xs => obtain ⟨a, rfl, _, z, hf⟩ := h; exact ⟨⟨a, rfl, z⟩, fun _ => hf.hf⟩
theorem RsOk.ref_own {l : Lc} {v : V} (ho : l.own = true) : RsOk K G F H ρ σ l v ↔ ∃ a, v = .ref a ∧ l.tag = none ∧ At K G F H l a ∧ Frs K G F H ρ σ l a := by
  cases l <;> first | exact Iff.rfl | (simp [Lc.own] at ho)
theorem RsOk.slotN {l : Lc} {v : V} (h : RsOk K G F H ρ σ l v) (ho : l.own = true) : (∀ a, v = .ref a → NoN ρ a) ∧ NsR K G F H ρ σ l v := by
  rw [RsOk.ref_own ho] at h
  obtain ⟨a, rfl, _, _, f⟩ := h
  exact ⟨fun b e => by cases e; exact f.hn, f.ns⟩
theorem RsOk.store [Pn] {l : Lc} {v : V} (R : Rel K G ρ F σ H) (h : RsOk K G F H ρ σ l v) (i : Nat) : Rel K G (ρ.set i (some l)) F (σ.set i (some v)) H := R.store i h.slot.1 h.slot.2 h.slotN
theorem LS.asg [Pn] {i : Nat} {x : Str} {pos' : Pos} (hN : X.N.Nodup) (hi : X.N[i]? = some x) (hx : Loc X.env.scope x) (h : LF X e tf) (hs : swapsWith e (some (.Name x pos')) pos.line X.env = pure false := by rfl)
    (hf : X.fn x = true ∨ X.env.scope.names.lookup x = some .local := by first | exact .inl rfl | exact .inr rfl) : LS X (.Assign [.Name x pos'] e pos) (sAsg i tf) := ⟨psImp (ps_set hN hi hx h.p hs hf) fun D σ H ⟨G, ρ, F, D', R, q, k⟩ =>
  ⟨G, ρ, F, _, R, q, fun l ρ1 v H1 F1 h1 R1 s1 r1 => k.nx _ _ _ _ h1 (r1.store R1 i) s1⟩⟩
/-- two names at once, from the right -/
def sPar (i j : Nat) (t u : TF) : TSt := fun D ρ => t ρ fun l ρ1 => u ρ1 fun m ρ2 => D.nx ((ρ2.set i (some l)).set j (some m))
theorem At.unpin {l : Lc} {b p : Addr} {o : HO} (z : At K (G.pin p o) F H l b) (h0 : G.H0 p = none) (hio : p ∉ G.io) : At K G F H l b ∧ b ≠ p := by
  have hp : (G.pin p o).H0 p = some o := if_pos rfl
  have ow := z.ow
  have nb : b ≠ p := fun q => by
    subst q
    cases e : l.tag with
    | none => rw [e] at ow; have ow : (G.pin b o).H0 b = none := ow; rw [hp] at ow; cases ow
    | some k => rw [e] at ow; exact hio (List.mem_of_getElem? ow)
  refine ⟨⟨z.nf, ?_, z.ob⟩, nb⟩
  cases e : l.tag with
  | none =>
    rw [e] at ow
    have ow : (if b = p then some o else G.H0 b) = none := ow
    rw [if_neg nb] at ow; exact ow
  | some k => rw [e] at ow; exact ow
theorem At.unpins {l : Lc} {b : Addr} : ∀ {L : List (Addr × HO)} {G : Gm}, (L.map (·.1)).Nodup → (∀ q ∈ L, G.H0 q.1 = none ∧ q.1 ∉ G.io) → At K (G.pins L) F H l b → At K G F H l b ∧ ∀ q ∈ L, b ≠ q.1
  | [], G, _, _, z => ⟨z, fun _ w => absurd w List.not_mem_nil⟩
  | q :: r, G, nd, h, z => by
    rw [List.map_cons, List.nodup_cons] at nd
    obtain ⟨h1, h2⟩ := h q List.mem_cons_self
    obtain ⟨z1, w⟩ := At.unpins (G := G.pin q.1 q.2) nd.2 (fun x hx => by
      obtain ⟨g1, g2⟩ := h x (List.mem_cons_of_mem _ hx)
      exact ⟨by rw [Gm.pin_ne fun e => nd.1 (by rw [← e]; exact List.mem_map_of_mem hx)]; exact g1, g2⟩) z
    obtain ⟨z2, ne⟩ := z1.unpin h1 h2
    refine ⟨z2, fun x hx => ?_⟩
    rcases List.mem_cons.mp hx with rfl | hx
    · exact ne
    · exact w x hx
theorem Ns.unpins {b : Addr} {t : Option Nat} {xs : List PD} : ∀ {L : List (Addr × HO)} {G : Gm}, (L.map (·.1)).Nodup → (∀ q ∈ L, G.H0 q.1 = none ∧ q.1 ∉ G.io) → Ns K (G.pins L) F H t b xs → Ns K G F H t b xs ∧ ∀ q ∈ L, b ≠ q.1
  | [], G, _, _, z => ⟨z, fun _ w => absurd w List.not_mem_nil⟩
  | q :: r, G, nd, h, z => by
    rw [List.map_cons, List.nodup_cons] at nd
    obtain ⟨h1, h2⟩ := h q List.mem_cons_self
    obtain ⟨z1, w⟩ := Ns.unpins (G := G.pin q.1 q.2) nd.2 (fun x hx => by
      obtain ⟨g1, g2⟩ := h x (List.mem_cons_of_mem _ hx)
      exact ⟨by rw [Gm.pin_ne fun e => nd.1 (by rw [← e]; exact List.mem_map_of_mem hx)]; exact g1, g2⟩) z
    have ne : b ≠ q.1 := fun e => by
      rcases z1.ow with o | o
      · have o : (if b = q.1 then some q.2 else G.H0 b) = none := o
        rw [if_pos e] at o; cases o
      · obtain ⟨_, _, _, o⟩ := o; exact h2 (by rw [← e]; exact o)
    refine ⟨⟨z1.nf, ?_, z1.ob⟩, fun x hx => ?_⟩
    · rcases z1.ow with o | o
      · rw [Gm.pin_ne ne] at o; exact .inl o
      · exact .inr o
    · rcases List.mem_cons.mp hx with rfl | hx
      · exact ne
      · exact w x hx
/-- two results lie apart -/
structure Apt (l : Lc) (v : V) (m : Lc) (w : V) : Prop where
  ne : l.own = true → m.own = true → w ≠ v
  lw : ∀ b xs, (b, xs) ∈ l.fp → (m.own = true → w ≠ .ref b) ∧ ∀ ys, (b, ys) ∉ m.fp
  mv : ∀ b xs, (b, xs) ∈ m.fp → l.own = true → v ≠ .ref b
/-- a result is kept while another thing is done -/
theorem RsOk.keep [Pn] {l : Lc} {v : V} (R : Rel K G ρ F σ H) (h : RsOk K G F H ρ σ l v) :
    ∃ G', Rel K G' ρ F σ H ∧ ∀ {ρ' F' H'}, Rel K G' ρ' F' σ H' → Same F F' → Rel K G ρ' F' σ H' ∧ RsOk K G F' H' ρ' σ l v ∧
      ∀ {m : Lc} {w : V}, RsOk K G' F' H' ρ' σ m w → RsOk K G F' H' ρ' σ m w ∧ Apt l v m w := by
  cases ho : l.own with
  | true =>
    rw [RsOk.ref_own ho] at h
    obtain ⟨a, ev, ht, ⟨nf, ow, o, eo, ok⟩, hf⟩ := h
    subst ev
    have n0 : G.H0 a = none := by rw [ht] at ow; exact ow
    have nio : ∀ {b : Addr}, G.H0 b = none → b ∉ G.io := fun {b} n z => (R.ih b z).2 n
    have no : ∀ us, o ≠ .tup us := fun us z => by subst z; cases l <;> exact False.elim ok
    obtain ⟨L, hL⟩ : ∃ L : List (Addr × HO), L = (a, o) :: l.fp.map fun x => (x.1, (H x.1).getD (.lst [])) := ⟨_, rfl⟩
    have e1 : L.map (·.1) = a :: l.fp.map (·.1) := by rw [hL, List.map_cons, List.map_map]; rfl
    have nd : (L.map (·.1)).Nodup := by
      rw [e1]
      refine List.nodup_cons.mpr ⟨fun z => ?_, ok.fp_nodup⟩
      obtain ⟨x, hx, ex⟩ := List.mem_map.mp z
      exact (hf.ns x.1 x.2 hx).2.1 (by rw [ex])
    have all : ∀ q ∈ L, F q.1 = none ∧ H q.1 = some q.2 ∧ G.H0 q.1 = none ∧ NoS ρ σ q.1 ∧ NoN ρ q.1 ∧ ∀ us, q.2 ≠ .tup us := fun q hq => by
      rw [hL] at hq
      rcases List.mem_cons.mp hq with rfl | hq
      · exact ⟨nf, eo, n0, hf.hf, hf.hn, no⟩
      · obtain ⟨x, hx, rfl⟩ := List.mem_map.mp hq
        obtain ⟨⟨z1, z2, vs, z3, z4⟩, _, z5, z6⟩ := hf.ns x.1 x.2 hx
        rw [ht] at z2
        refine ⟨z1, ?_, z2.elim id (fun z => by obtain ⟨_, z, _⟩ := z; cases z), z5, z6, ?_⟩
        · show H x.1 = some ((H x.1).getD _); rw [z3]; rfl
        · show ∀ us, (H x.1).getD _ ≠ .tup us
          rw [z3]
          intro us z; cases z
    have all2 : ∀ q ∈ L, G.H0 q.1 = none ∧ G.F0 q.1 = none ∧ q.1 ∉ G.io ∧ ∀ us, q.2 ≠ .tup us := fun q hq => by
      obtain ⟨z1, z2, z3, _, _, z4⟩ := all q hq
      exact ⟨z3, R.ff.free z1, nio z3, z4⟩
    refine ⟨G.pins L, Rel.pins nd all R, fun {ρ' F' H'} R' s => ?_⟩
    obtain ⟨R2, w⟩ := Rel.unpins R.ok nd all2 R'
    have all3 : ∀ q ∈ L, G.H0 q.1 = none ∧ q.1 ∉ G.io := fun q hq => ⟨(all2 q hq).1, (all2 q hq).2.2.1⟩
    have ma : (a, o) ∈ L := by rw [hL]; exact List.mem_cons_self
    have mb : ∀ b xs, (b, xs) ∈ l.fp → (b, (H b).getD (.lst [])) ∈ L := fun b xs hb => by rw [hL]; exact List.mem_cons_of_mem _ (List.mem_map.mpr ⟨(b, xs), hb, rfl⟩)
    obtain ⟨f2, h2, hf2, hn2⟩ := w _ ma
    refine ⟨R2, (RsOk.ref_own ho).mpr ⟨a, rfl, ht, ⟨f2, by rw [ht]; exact n0, o, h2, ok.mono s⟩, hf2, hn2, fun b xs hb => ?_⟩, fun {m u} r => ?_⟩
    · obtain ⟨⟨z1, z2, vs, z3, z4⟩, z0, _, _⟩ := hf.ns b xs hb
      obtain ⟨g1, g2, g3, g4⟩ := w _ (mb b xs hb)
      have g2 : H' b = some ((H b).getD (.lst [])) := g2
      rw [z3] at g2
      exact ⟨⟨g1, z2, vs, g2, z4.mono s⟩, z0, g3, g4⟩
    · cases hm : m.own with
      | true =>
        rw [RsOk.ref_own hm] at r ⊢
        obtain ⟨b, ew, hb, z, hf3⟩ := r
        subst ew
        obtain ⟨z1, z2⟩ := At.unpins nd all3 z
        have nsm : ∀ c xs, (c, xs) ∈ m.fp → Ns K G F' H' m.tag c xs ∧ ∀ q ∈ L, c ≠ q.1 := fun c xs hc => Ns.unpins nd all3 (hf3.ns c xs hc).1
        refine ⟨⟨b, rfl, hb, z1, ⟨hf3.hf, hf3.hn, fun c xs hc => ⟨(nsm c xs hc).1, (hf3.ns c xs hc).2⟩⟩⟩, ⟨fun _ _ q => z2 _ ma (V.ref.inj q), fun c xs hc => ⟨fun _ q => z2 _ (mb c xs hc) (V.ref.inj q), fun ys q => (nsm c ys q).2 _ (mb c xs hc) rfl⟩, fun c xs hc _ q => (nsm c xs hc).2 _ ma (V.ref.inj q).symm⟩⟩
      | false =>
        refine ⟨?_, ⟨fun _ z => (by rw [hm] at z; cases z), fun c xs hc => ⟨fun z => (by rw [hm] at z; cases z), fun ys q => (by rw [Lc.fp_own hm] at q; cases q)⟩, fun c xs hc => (by rw [Lc.fp_own hm] at hc; cases hc)⟩⟩
        rcases not_own hm with ⟨x, rfl⟩ | ⟨u, rfl⟩
        · exact r
        · exact r
  | false =>
    refine ⟨G, R, fun {ρ' F' H'} R' s => ⟨R', ?_, fun {m w} r => ⟨r, ⟨fun z => (by rw [ho] at z; cases z), fun b xs hb => (by rw [Lc.fp_own ho] at hb; cases hb), fun b xs _ z => (by rw [ho] at z; cases z)⟩⟩⟩⟩
    rcases not_own ho with ⟨x, rfl⟩ | ⟨u, rfl⟩
    · exact Df.mono s h
    · exact ScOk.mono s h
/-- two results that lie apart are stored -/
theorem RsOk.store2 [Pn] {l m : Lc} {v w : V} (R : Rel K G ρ F σ H) (r3 : RsOk K G F H ρ σ l v) (r4 : RsOk K G F H ρ σ m w) (ap : Apt l v m w) (i j : Nat) :
    Rel K G ((ρ.set i (some l)).set j (some m)) F ((σ.set i (some v)).set j (some w)) H := by
  have R4 := r3.store R i
  refine R4.store j r4.slot.1 (fun hm jj mm e hmm z => ?_) fun hm => ⟨fun a ew jj mm ys e hy => ?_, fun b xs hb => ?_⟩
  · rcases set_get e with ⟨rfl, hl, w'⟩ | ⟨hne, e'⟩
    · cases w'
      rw [List.getElem?_set_self (by rw [R.len]; exact hl)] at z
      exact ap.ne hmm hm (by simpa using z.symm)
    · rw [List.getElem?_set_ne (Ne.symm hne)] at z
      exact r4.slot.2 hm jj mm e' hmm z
  · rcases set_get e with ⟨rfl, hl, w'⟩ | ⟨hne, e'⟩
    · cases w'; exact (ap.lw a ys hy).1 hm ew
    · exact (r4.slotN hm).1 a ew jj mm ys e' hy
  · obtain ⟨n1, n2, n3, n4⟩ := (r4.slotN hm).2 b xs hb
    refine ⟨n1, n2, fun jj mm e hmm z => ?_, fun jj mm ys e hy => ?_⟩
    · rcases set_get e with ⟨rfl, hl, w'⟩ | ⟨hne, e'⟩
      · cases w'
        rw [List.getElem?_set_self (by rw [R.len]; exact hl)] at z
        exact ap.mv b xs hb hmm (by simpa using z)
      · rw [List.getElem?_set_ne (Ne.symm hne)] at z
        exact n3 jj mm e' hmm z
    · rcases set_get e with ⟨rfl, hl, w'⟩ | ⟨hne, e'⟩
      · cases w'; exact (ap.lw b ys hy).2 xs hb
      · exact n4 jj mm ys e' hy
theorem RsOk.storeD [Pn] {m : Lc} {v w : V} {x : PD} (R : Rel K G ρ F σ H) (r : RsOk K G F H ρ σ m w) (d : Df K F v x) (i j : Nat) : Rel K G ((ρ.set i (some (.d x))).set j (some m)) F ((σ.set i (some v)).set j (some w)) H :=
  RsOk.store2 R (l := .d x) d r ⟨fun z => (by cases z), fun b xs z => (by cases z), fun b xs _ z => (by cases z)⟩ i j
theorem LS.par [Pn] {i j : Nat} {x y : Str} {px py pt : Pos} {kt k2 : Nat} {pt2 : Pos} (hc : X.calm = true) (hN : X.N.Nodup) (hi : X.N[i]? = some x) (hj : X.N[j]? = some y) (hij : i ≠ j)
    (hx : X.env.scope.names.lookup x = some .local) (hy : X.env.scope.names.lookup y = some .local) (h1 : LF X e tf) (h2 : LF X e2 tf2)
    (hw : swappedStores [.Tuple [.Name x px, .Name y py] kt pt] (.Tuple [e, e2] k2 pt2) X.env = pure (some [x, y]))
    (hs : swapsWithSole [.Tuple [.Name x px, .Name y py] kt pt] (.Tuple [e, e2] k2 pt2) pos.line X.env = pure false := by rfl)
    (hs1 : starEach [e, e2] X.env = (false, eval e X.env) :: starEach [e2] X.env := by rfl) (hs2 : starEach [e2] X.env = (false, eval e2 X.env) :: starEach [] X.env := by rfl) :
    LS X (.Assign [.Tuple [.Name x px, .Name y py] kt pt] (.Tuple [e, e2] k2 pt2) pos) (sPar i j tf tf2) :=
  ⟨psImp (ps_par hc hN hi hj hij hx hy (pa_cons h1.p (pa_cons h2.p pa_nil hs2) hs1) hw hs) fun D σ H ⟨G, ρ, F, D', R, q, k⟩ =>
    ⟨G, ρ, F, _, R, q, fun l ρ1 v H1 F1 h1 R1 s1 r1 => by
      obtain ⟨G', Rp, back⟩ := r1.keep R1
      exact ⟨G', ρ1, F1, _, Rp, h1, fun m ρ2 w H2 F2 h2 R2 s2 r2 => by
        obtain ⟨R3, r3, both⟩ := back R2 s2
        obtain ⟨r4, ne⟩ := both r2
        refine ⟨v, w, rfl, k.nx _ _ _ _ h2 ?_ (s1.trans s2)⟩
        exact r3.store2 R3 r4 ne i j⟩⟩⟩
end
end DL
/-! The data layer, part f: targets, loops, comprehensions. -/
namespace DL
open PySem L2 PyProof.Rows

section
variable {G : Gm} {X : Cx} {K : PySem.W.Frag} {F F' H H' : Hp} {ρ : En} {σ : L2.St} {e e2 e3 : Expr} {es : List Expr} {pos : Pos} {oa ob oc : Op1} {ta tb : TD} {c : TTd} {st : Stmt} {sts sts2 : List Stmt} {t u : TSt} {tf tf2 : TF} {v : V} {x : PD}

/-! ### targets: a name, a tuple of names -/
inductive Pt where
  | nm (i : Nat)
  | tp (is : List Nat)
  /-- a list's items -/
  | ul (is : List Nat)
def gNames : List Nat → TGs
  | [] => gNil
  | i :: r => gCons (gName i) (gNames r)
def Pt.tg (K : PySem.W.Frag) : Pt → TG
  | .nm i => gName i
  | .tp is => gTup K is.length (gNames is)
  | .ul is => gUnl K is.length (gNames is)
def Pt.slots : Pt → List Nat
  | .nm i => [i]
  | .tp is => is
  | .ul is => is
def setAll : En → List Nat → List PD → En
  | ρ, i :: is, x :: xs => setAll (ρ.set i (some (.d x))) is xs
  | ρ, _, _ => ρ
def Pt.go : Pt → PD → En → (En → Prop) → Prop
  | .nm i, x, ρ, Q => Q (ρ.set i (some (.d x)))
  | .tp is, .tuple xs, ρ, Q => xs.length = is.length ∧ Q (setAll ρ is xs)
  | .tp _, _, _, _ => False
  | .ul is, .list xs, ρ, Q => xs.length = is.length ∧ Q (setAll ρ is xs)
  | .ul _, _, _, _ => False
/-- all but some slots are as they were -/
def Only (is : List Nat) (σ σ' : L2.St) : Prop := σ'.length = σ.length ∧ ∀ j, j ∉ is → σ'[j]? = σ[j]?
theorem only_set {i : Nat} {is : List Nat} {w : Option V} (h : i ∈ is) : Only is σ (σ.set i w) := ⟨List.length_set, fun j hj => List.getElem?_set_ne fun z => hj (by rw [← z]; exact h)⟩
theorem names_go [Pn] {is js : List Nat} (hs : ∀ i ∈ js, i ∈ is) : ∀ {ρ : En} {σ : L2.St} {vs : List V} {xs : List PD} {Q : L2.St → Hp → Prop}, Rel K G ρ F σ H → DfA K F vs xs → xs.length = js.length →
    (∀ σ2, Rel K G (setAll ρ js xs) F σ2 H → Only is σ σ2 → Q σ2 H) → gNames js vs σ H Q := by
  induction js with
  | nil =>
    intro ρ σ vs xs Q R d hl q
    have e1 : xs = [] := List.length_eq_zero_iff.mp hl
    subst e1
    cases d
    exact ⟨rfl, q σ R ⟨rfl, fun _ _ => rfl⟩⟩
  | cons j js ih =>
    intro ρ σ vs xs Q R d hl q
    cases d with
    | nil => simp at hl
    | cons a b =>
      rename_i v vs x xs
      refine ⟨v, vs, rfl, ?_⟩
      show gNames js vs (σ.set j (some v)) H Q
      refine ih (fun i hi => hs i (List.mem_cons_of_mem _ hi)) (R.store_d j a) b (by simpa using hl) fun σ2 R2 o => q σ2 R2 ?_
      refine ⟨by rw [o.1, List.length_set], fun k hk => ?_⟩
      rw [o.2 k hk]
      exact List.getElem?_set_ne fun z => hk (by rw [← z]; exact hs j List.mem_cons_self)
theorem pt_go [Pn] (pt : Pt) (R : Rel K G ρ F σ H) (d : Df K F v x) {Q' : En → Prop} (h : pt.go x ρ Q') {Q : L2.St → Hp → Prop} (q : ∀ ρ2 σ2, Q' ρ2 → Rel K G ρ2 F σ2 H → Only pt.slots σ σ2 → Q σ2 H) : pt.tg K v σ H Q := by
  cases pt with
  | nm i => exact q _ _ h (R.store_d i d) (only_set (List.mem_singleton.mpr rfl))
  | tp is =>
    cases d <;> first | exact False.elim h | skip
    rename_i a vs xs hq ds
    obtain ⟨h1, h2⟩ := h
    exact ⟨a, vs, rfl, seqT R.fh hq, by rw [ds.length]; exact h1, names_go (fun i hi => hi) R ds h1 fun σ2 R2 o => q _ σ2 h2 R2 o⟩
  | ul is =>
    cases d <;> first | exact False.elim h | skip
    rename_i a vs xs hq ds
    obtain ⟨h1, h2⟩ := h
    exact ⟨a, vs, rfl, rdSq (rdM R.fh hq), by rw [ds.length]; exact h1, names_go (fun i hi => hi) R ds h1 fun σ2 R2 o => q _ σ2 h2 R2 o⟩
/-- a, b = e (e gives a tuple) -/
def sUnp (pt : Pt) (t : TD) : TSt := fun D ρ => t ρ fun x ρ1 => pt.go x ρ1 D.nx
theorem LS.unp [Pn] {tg : Expr} {pt : Pt} (hg : PG X tg (pt.tg X.K)) (h : LD X e ta) (hs : swapsWithSole [tg] e pos.line X.env = pure false := by rfl) (hw : swappedStores [tg] e X.env = pure none := by rfl)
    (h1 : (assignEach [tg] X.env).map (·.2) = [assign tg X.env] := by rfl) : LS X (.Assign [tg] e pos) (sUnp pt ta) := ⟨psImp (ps_asg h.p hg hs hw h1) fun D σ H ⟨G, ρ, F, D', R, q, k⟩ =>
  ⟨G, ρ, F, _, R, q, fun x ρ1 v H1 F1 h1 R1 s1 d => pt_go pt R1 d h1 fun ρ2 σ2 q2 R2 _ => k.nx _ _ _ _ q2 R2 s1⟩⟩

/-! ### own lists are changed -/
/-- xs[i] = e, xs an own list -/
def sSetL (s : Nat) (oi : Op1) (t : TD) : TSt := fun D ρ => t ρ fun x ρ1 => match ρ1[s]? with
  | some (some _) => oi.run ρ1 fun a ρ2 => res1 ρ2 a fun y => (match y, ρ2[s]? with
    | .int i, some (some (.ls p xs)) => ∃ j, ixN xs.length i = some j ∧ D.nx (ρ2.set s (some (.ls p (xs.set j x))))
    | _, _ => False)
  | _ => False
theorem Rel.own_ls [Pn] (R : Rel K G ρ F σ H) {s : Nat} {p : Option Nat} {xs : List PD} (er : ρ[s]? = some (some (.ls p xs))) : ∃ a vs, σ[s]? = some (some (.ref a)) ∧ H a = some (.lst vs) ∧ DfA K F vs xs := by
  obtain ⟨a, es, nf, ow, o, eo, ok⟩ := R.at_ er rfl
  cases o <;> first | exact False.elim ok | exact ⟨a, _, es, eo, ok⟩
theorem LS.setL [Pn] {s : Nat} {o i : Expr} {p2 : Pos} (h : LD X e ta) (hg : PG X (.Subscript o i p2) (gSub (tVar s) (liftO X.K oa) rSetL))
    (hs : swapsWithSole [.Subscript o i p2] e pos.line X.env = pure false := by rfl) (hw : swappedStores [.Subscript o i p2] e X.env = pure none := by rfl)
    (h1 : (assignEach [.Subscript o i p2] X.env).map (·.2) = [assign (.Subscript o i p2) X.env] := by rfl) : LS X (.Assign [.Subscript o i p2] e pos) (sSetL s oa ta) := ⟨psImp (ps_asg h.p hg hs hw h1) fun D σ H ⟨G, ρ, F, D', R, q, k⟩ =>
  ⟨G, ρ, F, _, R, q, fun x ρ1 v H1 F1 h1 R1 s1 d => by
    split at h1
    · rename_i l er
      obtain ⟨w, ew⟩ := (R1.sl s _ er).some
      refine ⟨w, ew, G, ρ1, F1, _, R1, h1, fun a ρ2 vi H2 F2 h2 R2 s2 av => ?_⟩
      obtain ⟨y, h3, dy⟩ := res1_dr R2 av h2
      split at h3
      · rename_i i p xs er2
        obtain ⟨j, hj, h4⟩ := h3
        obtain ⟨b, vs, es, eb, dv⟩ := R2.own_ls er2
        rw [es] at ew
        have ew : w = .ref b := by simpa using ew.symm
        subst ew
        rw [dy.int]
        refine ⟨b, vs, i, j, rfl, rfl, eb, by rw [dv.length]; exact hj, k.nx _ _ _ _ h4 ?_ (s1.trans s2)⟩
        exact R2.write er2 rfl es (m := .ls p (xs.set j x)) (dv.set j (d.mono s2)) rfl
      · exact False.elim h3
    · exact False.elim h1⟩⟩
/-- xs.append(e); xs.extend(ys); xs.pop() as a value -/
def sApp (s : Nat) (t : TD) : TSt := fun D ρ => match ρ[s]? with
  | some (some (.ls _ _)) => t ρ fun x ρ1 => (match ρ1[s]? with
    | some (some (.ls p xs)) => xs.length < sizeLine ∧ D.nx (ρ1.set s (some (.ls p (xs ++ [x]))))
    | _ => False)
  | _ => False
theorem LS.app [Pn] {s : Nat} (h : PE X e (tBM X.K "list" rAppend (tVar s) (tCons (liftD X.K ta) tNil))) (hs : swapsWith e none pos.line X.env = pure false := by rfl) : LS X (.Expr e pos) (sApp s ta) := ⟨psImp (ps_expr h hs) fun D σ H ⟨G, ρ, F, D', R, q, k⟩ => by
  unfold sApp at q
  split at q
  · rename_i p0 ys er
    obtain ⟨a, us, es, ea, _⟩ := R.own_ls er
    refine ⟨_, es, .inl ⟨rfl, us, SqL.of ea⟩, G, ρ, F, _, R, q, fun x ρ1 v H1 F1 h1 R1 s1 d => ?_⟩
    split at h1
    · rename_i p xs er1
      obtain ⟨b, vs, es1, eb, dv⟩ := R1.own_ls er1
      rw [es] at es1
      have eab : a = b := by simpa using es1
      subst eab
      refine ⟨a, vs, v, rfl, rfl, eb, by rw [dv.length]; exact h1.1, k.nx _ _ _ _ h1.2 ?_ s1⟩
      exact R1.write er1 rfl es (m := .ls p (xs ++ [x])) (dv.snoc d) rfl
    · exact False.elim h1
  · exact False.elim q⟩
def rExtD : V → List V → Hp → VK → Prop := fun x vs H Q => ∃ l b xs zs, x = .ref l ∧ vs = [.ref b] ∧ H l = some (.lst xs) ∧ Rd H b (.lst zs) ∧ xs.length + zs.length ≤ sizeLine ∧ Q .non (upd H l (.lst (xs ++ zs)))
theorem mt_extD : MtR X "list.extend" rExtD := by
  intro pins s σ H x vs v us Q I rx rv ⟨l, b, xs, zs, ex, ev, hH, hB, hz, q⟩
  subst ex ev
  cases rx
  obtain ⟨u, rfl, ru⟩ := rv.one
  cases ru
  obtain ⟨z, is1, n, r, hl, e⟩ := I.lstM hH
  obtain ⟨z2, is2, n2, r2, hl2, e2⟩ := rd_list I hB
  have hsz : is1.toArray.size + is2.toArray.size ≤ sizeLine := by simp only [List.size_toArray]; omega
  have hlong : ¬ (!is1.toArray.isEmpty && Builtin.List.listTooLong (is1.toArray.size + is2.toArray.size)) = true := by
    simp only [notLongL hsz, Bool.and_false]; exact Bool.false_ne_true
  refine call_meets F.slot_list_extend ⟨_, e, rfl⟩ F.entry_list_extend (F.args_list_extend_2 _ _) (AutoSeq1.list_extend_list_list_0 l is1.toArray n b is2.toArray n2 hlong
    (by simp only [List.size_toArray]; omega) (by omega)) ⟨e, e2, .non, _, I.lset (its' := is1 ++ is2) hH e (by simp) (r.append r2) ?_, rfl, q⟩
  simp only [List.length_append]; exact hz
def sExt (s : Nat) (o : Op1) : TSt := fun D ρ => match ρ[s]? with
  | some (some (.ls _ _)) => o.run ρ fun a ρ1 => res1 ρ1 a fun y => (match y, ρ1[s]? with
    | .list ys, some (some (.ls p xs)) => xs.length + ys.length ≤ sizeLine ∧ D.nx (ρ1.set s (some (.ls p (xs ++ ys))))
    | _, _ => False)
  | _ => False
theorem LS.ext [Pn] {s : Nat} (h : PE X e (tBM X.K "list" rExtD (tVar s) (tCons (liftO X.K oa) tNil))) (hs : swapsWith e none pos.line X.env = pure false := by rfl) : LS X (.Expr e pos) (sExt s oa) := ⟨psImp (ps_expr h hs) fun D σ H ⟨G, ρ, F, D', R, q, k⟩ => by
  unfold sExt at q
  split at q
  · rename_i p0 ys er
    obtain ⟨a, us, es, ea, _⟩ := R.own_ls er
    refine ⟨_, es, .inl ⟨rfl, us, SqL.of ea⟩, G, ρ, F, _, R, q, fun av ρ1 v H1 F1 h1 R1 s1 d => ?_⟩
    obtain ⟨y, h2, dy⟩ := res1_dr R1 d h1
    split at h2
    · rename_i zs p xs er1
      obtain ⟨b, vs, es1, eb, dv⟩ := R1.own_ls er1
      rw [es] at es1
      have eab : a = b := by simpa using es1
      subst eab
      obtain ⟨c, ws, rfl, ec, dw⟩ := dy.lst R1.fh
      refine ⟨a, c, vs, ws, rfl, rfl, eb, ec, by rw [dv.length, dw.length]; exact h2.1, k.nx _ _ _ _ h2.2 ?_ s1⟩
      exact R1.write er1 rfl es (m := .ls p (xs ++ zs)) (dv.append dw) rfl
    · exact False.elim h2
  · exact False.elim q⟩
def dPop (s : Nat) : TD := fun ρ Q => match ρ[s]? with
  | some (some (.ls p xs)) => ∃ y, xs[xs.length - 1]? = some y ∧ Q y (ρ.set s (some (.ls p xs.dropLast)))
  | _ => False
theorem DfA.dropLast {vs : List V} {ds : List PD} (h : DfA K F vs ds) : DfA K F vs.dropLast ds.dropLast := by
  rw [List.dropLast_eq_take, List.dropLast_eq_take, h.length]; exact h.take _
theorem LD.pop [Pn] {s : Nat} (h : PE X e (tBM0 X.K "list" rPop (tVar s))) : LD X e (dPop s) := ⟨peImp h fun σ H Q ⟨G, ρ, F, Q', R, q, c⟩ => by
  unfold dPop at q
  split at q
  · rename_i p xs er
    obtain ⟨a, vs, es, ea, dv⟩ := R.own_ls er
    obtain ⟨y, hy, q⟩ := q
    obtain ⟨w, hw, dw⟩ := dv.get hy
    refine ⟨_, es, .inl ⟨rfl, vs, SqL.of ea⟩, a, vs, w, rfl, rfl, ea, by rw [dv.length]; exact hw, c _ _ _ _ _ q ?_ (Same.refl _) dw⟩
    exact R.write er rfl es (m := .ls p xs.dropLast) dv.dropLast rfl
  · exact False.elim q⟩
/-- x op= e -/
def sAug (s : Nat) (f : F2) (o : Op1) : TSt := fun D ρ => match ρ[s]? with
  | some (some (.d x)) => o.run ρ fun a ρ1 => res1 ρ1 a fun y => f x y fun z => D.nx (ρ1.set s (some (.d z)))
  | _ => False
theorem LS.aug [Pn] {s : Nat} {n : Str} {op : Operator} {pos' : Pos} {f : F2} {r : R2} (hN : X.N.Nodup) (hi : X.N[s]? = some n) (hx : Loc X.env.scope n) (ho : OpR X (inplaceOp op) r) (hf : Op2Ok X.K f r) (h : LO X e oa)
    (hfn : X.fn n = true ∨ X.env.scope.names.lookup n = some .local := by first | exact .inl rfl | exact .inr rfl) : LS X (.AugAssign (.Name n pos') op e pos) (sAug s f oa) := ⟨psImp (ps_aug (ti := r) hN hi hx h.p ho hfn) fun D σ H ⟨G, ρ, F, D', R, q, k⟩ => by
  unfold sAug at q
  split at q
  · rename_i x er
    obtain ⟨w, ew, dw⟩ := R.sl s _ er
    refine ⟨w, ew, G, ρ, F, _, R, q, fun av ρ1 v H1 F1 h1 R1 s1 d => ?_⟩
    obtain ⟨y, h2, dy⟩ := res1_dr R1 d h1
    refine hf F1 H1 w v x y _ _ R1.fh (.f (dw.mono s1)) dy h2 fun z u F2 H2 kz g dz => k.nx _ _ _ _ kz ?_ (s1.trans g.ff)
    exact (R1.grow g).store_d s dz
  · exact False.elim q⟩
theorem iop_add : OpR X (inplaceOp .Add) (rI0 fun i j => .int (i + j)) := opI0 fun _ _ _ _ _ _ _ q => PyProof.Rows.iadd_int q
theorem iop_sub : OpR X (inplaceOp .Sub) (rI0 fun i j => .int (i - j)) := opI0 fun _ _ _ _ _ _ _ q => PyProof.Rows.isub_int q
theorem iop_mul : OpR X (inplaceOp .Mult) (rI IntMulOk fun i j => .int (i * j)) := opI fun _ _ _ _ _ _ _ hc q => PySem.P.imul_int q hc
def bAddI : F2
  | .int i, .int j, k => k (.int (i + j))
  | _, _, _ => False
theorem ok_addI : Op2Ok K bAddI (rI0 fun i j => .int (i + j)) := by
  intro F H vx vy x y k Q s dx dy h c
  unfold bAddI at h
  split at h
  · rw [dx.int, dy.int]
    exact ⟨_, _, rfl, rfl, c _ _ F H h (Grow.refl s) (.int _)⟩
  · exact False.elim h
end
end DL
/-! The data layer, part g: loops, comprehensions. -/
namespace DL
open PySem L2 PyProof.Rows

theorem piImp {X : Cx} {tg e : Expr} {t t' : TI} (h : PI X tg e t) (w : ∀ σ H R, t' σ H R → t σ H R) : PI X tg e t' := ⟨fun pins s σ H R I q => h.run pins s σ H R I (w _ _ _ q)⟩

section
variable {G : Gm} {X : Cx} {K : PySem.W.Frag} {F F' H H' : Hp} {ρ : En} {σ : L2.St} {e e2 e3 tg : Expr} {es : List Expr} {pos : Pos} {oa ob oc : Op1} {ta tb : TD} {c : TTd} {st : Stmt} {sts sts2 : List Stmt} {t u : TSt} {tf tf2 : TF} {v : V} {x : PD}

/-! ### while: a word and a measure -/
def sWhile (c : TTd) (b : TSt) : TSt := fun D ρ => ∃ (I : En → Prop) (μ : En → Nat), I ρ ∧ ∀ ρ, I ρ → c ρ fun k ρ1 => brB k (b { D with nx := fun ρ' => I ρ' ∧ μ ρ' < μ ρ, ct := fun ρ' => I ρ' ∧ μ ρ' < μ ρ, bk := D.nx } ρ1) (D.nx ρ1)
theorem LS.while [Pn] (hp : PassesOwn (model X.prog X.w) X.A X.env X.xe) (h : LT X e c) (hb : LSs X sts t) : LS X (.While e sts [] pos) (sWhile c t) := ⟨psImp (ps_while hp h.p hb.p) fun D σ H ⟨G, ρ, F, D', R, ⟨I, μ, i0, turn⟩, k⟩ => by
  refine ⟨fun m σ H => ∃ ρ F', Rel X.K G ρ F' σ H ∧ Same F F' ∧ I ρ ∧ m = μ ρ, ⟨μ ρ, ρ, F, R, Same.refl _, i0, rfl⟩, ?_⟩
  rintro m σ1 H1 ⟨ρ1, F1, R1, s1, i1, rfl⟩
  refine ⟨G, ρ1, F1, _, R1, turn ρ1 i1, fun b ρ2 H2 F2 h2 R2 s2 => ?_⟩
  cases b with
  | false => exact iteF (k.nx _ _ _ _ (h2.2 rfl) R2 (s1.trans s2))
  | true =>
    refine iteT ⟨fun σ' H' => ∃ ρ' F', Rel X.K G ρ' F' σ' H' ∧ Same F F' ∧ I ρ' ∧ μ ρ' < μ ρ1, fun σ' H' ⟨ρ', F', R', s', i', l⟩ => ⟨μ ρ', l, ρ', F', R', s', i', rfl⟩, ?_⟩
    have s12 := s1.trans s2
    exact ⟨G, ρ2, F2, _, R2, h2.1 rfl, ⟨fun ρ3 σ3 H3 F3 h R s => ⟨ρ3, F3, R, s12.trans s, h.1, h.2⟩, fun l ρ3 v σ3 H3 F3 h R s r => k.rt _ _ _ _ _ _ h R (s12.trans s) r,
      fun ρ3 σ3 H3 F3 h R s => k.nx _ _ _ _ h R (s12.trans s), fun ρ3 σ3 H3 F3 h R s => ⟨ρ3, F3, R, s12.trans s, h.1, h.2⟩⟩⟩⟩

/-! ### what is walked -/
/-- fixed items; or the own list in a slot, which stays -/
inductive Wk where
  | items (xs : List PD)
  | own (s : Nat) (p : Option Nat) (xs : List PD)
  /-- the own list at b under a name in the own instance of a slot, which stays -/
  | nst (s : Nat) (nm : Str) (b : Addr) (xs : List PD)
def Wk.list : Wk → List PD
  | .items xs => xs
  | .own _ _ xs => xs
  | .nst _ _ _ xs => xs
def Wk.keeps (ρ : En) : Wk → Prop
  | .items _ => True
  | .own s p xs => ρ[s]? = some (some (.ls p xs))
  | .nst s nm b xs => ∃ p C fs ns, ρ[s]? = some (some (.nb p C fs ns)) ∧ getN nm ns = some (b, xs)
def Wk.keepS (σ σ1 : L2.St) : Wk → Prop
  | .items _ => True
  | .own s _ _ => σ[s]? = σ1[s]?
  | .nst _ _ _ _ => True
abbrev TId := En → (Wk → En → Prop) → Prop
def WkOk [Pn] (K : PySem.W.Frag) (J : It) (w : Wk) (F1 : Hp) (σ1 : L2.St) : Prop := ∀ (G : Gm) (i : Nat) (ρ : En) (F : Hp) (σ : L2.St) (H : Hp), Rel K G ρ F σ H → Same F1 F → w.keeps ρ → w.keepS σ σ1 →
  (w.list.length ≤ i → J.stop i H) ∧ (i < w.list.length → J.go i H ∧ ∀ x H', J.yld i H x H' → ∃ F' d, Grow F H F' H' ∧ w.list[i]? = some d ∧ Df K F' x d)
def liftI [Pn] (K : PySem.W.Frag) (t : TId) : TI := fun σ H R => ∃ G ρ F Q', Rel K G ρ F σ H ∧ t ρ Q' ∧ ∀ w ρ1 H1 F1 J, Q' w ρ1 → Rel K G ρ1 F1 σ H1 → Same F F1 → WkOk K J w F1 σ → R J H1
structure LI [Pn] (X : Cx) (tg e : Expr) (t : TId) : Prop where
  p : PI X tg e (liftI X.K t)
/-- a list or a tuple -/
def iSeqH (K : PySem.W.Frag) (tl : TE) : TI := fun σ H R => tl σ H fun x H1 => (∃ a xs, x = .ref a ∧ SqL K H1 a xs ∧ R (Itl K a) H1) ∨ (∃ a xs, x = .ref a ∧ SqT K H1 a xs ∧ R (Itt K a) H1)
theorem pi_seq {tl : TE} (hl : PE X e tl) : PI X tg e (iSeqH X.K tl) := by
  refine ⟨fun pins s σ H R I h => thn (hl.run pins s σ H _ I h) fun u s1 ⟨x, H1, I1, r1, q1⟩ => ?_⟩
  have fp : ∀ b ∈ [s1.heap.objs.size], FpOk X pins H1 b := fun b hb => by rw [List.mem_singleton.mp hb]; exact I1.fpOk (Nat.le_refl _) (I1.hok.fresh (Nat.le_refl _))
  rcases q1 with ⟨a, xs, ex, hq, q⟩ | ⟨a, xs, ex, hq, q⟩ <;> subst ex <;> cases r1
  · obtain ⟨its, _, pl, _⟩ := I1.list hq
    exact wpAny_pyIter_list pl.isList ⟨_, _, _, _, H1, rfl, I1.kept (t' := s1.toks) (fun b o w => Heap.get?_push_of_some _ w), turn_list a _, ⟨_, Heap.get?_push_size _ rfl, rfl, rfl⟩, fp, q⟩
  · obtain ⟨its, _, pl, _⟩ := I1.tuple hq
    exact wpAny_pyIter_tuple (show s1.heap.IsTuple a its.toArray from pl) ⟨_, _, _, _, H1, rfl, I1.kept (t' := s1.toks) (fun b o w => Heap.get?_push_of_some _ w), turn_tuple a _, ⟨_, Heap.get?_push_size _ rfl, rfl, rfl⟩, fp, q⟩
/-- over what an expression gives, frozen -/
def iSeq (t : TD) : TId := fun ρ Q => t ρ fun x ρ1 => match x with
  | .list xs => Q (.items xs) ρ1
  | .tuple xs => Q (.items xs) ρ1
  | _ => False
theorem wk_list [Pn] {a : Addr} {vs : List V} {xs : List PD} {F1 : Hp} {σ1 : L2.St} (hq : Rd F1 a (.lst vs)) (ds : DfA K F1 vs xs) : WkOk K (Itl K a) (.items xs) F1 σ1 := by
  intro G i ρ F σ H R s _ _
  have q : SqL K H a vs := .inl (rdM R.fh (rdM s hq))
  have hl : vs.length = xs.length := ds.length
  refine ⟨fun h => ⟨vs, q, by rw [hl]; exact h⟩, fun h => ?_⟩
  obtain ⟨d, hd⟩ : ∃ d, xs[i]? = some d := ⟨xs[i]'h, List.getElem?_eq_getElem h⟩
  obtain ⟨v, hv, dv⟩ := ds.get hd
  refine ⟨⟨vs, v, q, hv⟩, fun x H' y => ?_⟩
  obtain ⟨rfl, y⟩ := y
  have := y vs q
  rw [hv] at this
  cases this
  exact ⟨F, d, Grow.refl R.fh, hd, dv.mono s⟩
theorem wk_tup [Pn] {a : Addr} {vs : List V} {xs : List PD} {F1 : Hp} {σ1 : L2.St} (hq : SqT K F1 a vs) (ds : DfA K F1 vs xs) : WkOk K (Itt K a) (.items xs) F1 σ1 := by
  intro G i ρ F σ H R s _ _
  have q : SqT K H a vs := seqT R.fh (seqT s hq)
  have hl : vs.length = xs.length := ds.length
  refine ⟨fun h => ⟨vs, q, by rw [hl]; exact h⟩, fun h => ?_⟩
  obtain ⟨d, hd⟩ : ∃ d, xs[i]? = some d := ⟨xs[i]'h, List.getElem?_eq_getElem h⟩
  obtain ⟨v, hv, dv⟩ := ds.get hd
  refine ⟨⟨vs, v, q, hv⟩, fun x H' y => ?_⟩
  obtain ⟨rfl, y⟩ := y
  have := y vs q
  rw [hv] at this
  cases this
  exact ⟨F, d, Grow.refl R.fh, hd, dv.mono s⟩
theorem LI.seq [Pn] (h : LD X e ta) : LI X tg e (iSeq ta) := ⟨piImp (pi_seq h.p) fun σ H R ⟨G, ρ, F, Q', Rl, q, c⟩ => ⟨G, ρ, F, _, Rl, q, fun x ρ1 v H1 F1 h1 R1 s1 d => by
  split at h1
  · cases d with
    | lst hq ds => exact .inl ⟨_, _, rfl, rdSq (rdM R1.fh hq), c _ _ _ _ _ h1 R1 s1 (wk_list hq ds)⟩
  · cases d with
    | tup hq ds => exact .inr ⟨_, _, rfl, seqT R1.fh hq, c _ _ _ _ _ h1 R1 s1 (wk_tup hq ds)⟩
  · exact False.elim h1⟩⟩
/-- over a name: its own list stays where it is -/
def iOwn (s : Nat) : TId := fun ρ Q => match ρ[s]? with
  | some (some (.ls p xs)) => Q (.own s p xs) ρ
  | some (some (.d (.list xs))) => Q (.items xs) ρ
  | some (some (.d (.tuple xs))) => Q (.items xs) ρ
  | _ => False
theorem wk_own [Pn] {a : Addr} {s : Nat} {p : Option Nat} {xs : List PD} {F1 : Hp} {σ1 : L2.St} (es : σ1[s]? = some (some (.ref a))) : WkOk K (Itl K a) (.own s p xs) F1 σ1 := by
  intro G i ρ F σ H R _ hk hs
  obtain ⟨b, vs, eb, hb, ds⟩ := R.own_ls (show ρ[s]? = some (some (.ls p xs)) from hk)
  have hs : σ[s]? = σ1[s]? := hs
  rw [hs, es] at eb
  have eab : a = b := by simpa using eb
  subst eab
  have q : SqL K H a vs := SqL.of hb
  have hl : vs.length = xs.length := ds.length
  refine ⟨fun h => ⟨vs, q, by rw [hl]; exact h⟩, fun h => ?_⟩
  have h : i < xs.length := h
  obtain ⟨d, hd⟩ : ∃ d, xs[i]? = some d := ⟨xs[i]'h, List.getElem?_eq_getElem h⟩
  obtain ⟨v, hv, dv⟩ := ds.get hd
  refine ⟨⟨vs, v, q, hv⟩, fun x H' y => ?_⟩
  obtain ⟨rfl, y⟩ := y
  have := y vs q
  rw [hv] at this
  cases this
  exact ⟨F, d, Grow.refl R.fh, hd, dv⟩
theorem LI.own [Pn] (s : Nat) (h : PE X e (tVar s)) : LI X tg e (iOwn s) := ⟨piImp (pi_seq h) fun σ H R ⟨G, ρ, F, Q', Rl, q, c⟩ => by
  unfold iOwn at q
  split at q
  · rename_i p xs er
    obtain ⟨a, vs, es, ha, ds⟩ := Rl.own_ls er
    exact ⟨_, es, .inl ⟨a, vs, rfl, SqL.of ha, c _ _ _ _ _ q Rl (Same.refl _) (wk_own es)⟩⟩
  · rename_i xs er
    obtain ⟨v, es, d⟩ := Rl.sl s _ er
    cases d with
    | lst hq ds => exact ⟨_, es, .inl ⟨_, _, rfl, rdSq (rdM Rl.fh hq), c _ _ _ _ _ q Rl (Same.refl _) (wk_list hq ds)⟩⟩
  · rename_i xs er
    obtain ⟨v, es, d⟩ := Rl.sl s _ er
    cases d with
    | tup hq ds => exact ⟨_, es, .inr ⟨_, _, rfl, seqT Rl.fh hq, c _ _ _ _ _ q Rl (Same.refl _) (wk_tup hq ds)⟩⟩
  · exact False.elim q⟩
/-- range(n), range(a, b) -/
def rngD (lo : Int) (n : Nat) : List PD := (List.range n).map fun i => .int (lo + (i : Nat))
theorem wk_range [Pn] {lo : Int} {n : Nat} {F1 : Hp} {σ1 : L2.St} : WkOk K (Itr lo n) (.items (rngD lo n)) F1 σ1 := by
  intro G i ρ F σ H R s _ _
  have hl : (rngD lo n).length = n := by unfold rngD; rw [List.length_map, List.length_range]
  refine ⟨fun h => by show n ≤ i; have h : (rngD lo n).length ≤ i := h; omega, fun h => ?_⟩
  have h : i < (rngD lo n).length := h
  rw [hl] at h
  refine ⟨h, fun x H' y => ?_⟩
  obtain ⟨rfl, rfl⟩ := y
  refine ⟨F, .int (lo + (i : Nat)), Grow.refl R.fh, ?_, .int _⟩
  show (rngD lo n)[i]? = _
  unfold rngD
  rw [List.getElem?_map, List.getElem?_range h]
  rfl
def iRg (t : TAd) : TId := fun ρ Q => t ρ fun as ρ1 => resA ρ1 as fun xs => match xs with
  | [.int j] => (-(2 ^ 62) ≤ j ∧ j < 2 ^ 62) ∧ Q (.items (rngD 0 j.toNat)) ρ1
  | [.int i, .int j] => (-(2 ^ 62) ≤ i ∧ i < 2 ^ 62 ∧ -(2 ^ 62) ≤ j ∧ j < 2 ^ 62) ∧ Q (.items (rngD i (j - i).toNat)) ρ1
  | _ => False
variable {p : Pos} {tt : TAd}
theorem LI.range1 [Pn] (hg : Gl X "range") (hm : X.mg "range" = none) (ha : LA X [e] tt) (hs : starEach [e] X.env = [(false, eval e X.env)] := by rfl) : LI X tg (.Call (.Name "range" p) [e] [] pos) (iRg tt) :=
  ⟨piImp (pi_range1 hg hm ha.p hs) fun σ H R ⟨G, ρ, F, Q', Rl, q, c⟩ => ⟨G, ρ, F, _, Rl, q, fun as ρ1 vs H1 F1 h1 hl R1 s1 av => by
    obtain ⟨xs, h2, d⟩ := resA_dr R1 av h1
    split at h2
    · obtain ⟨w, rfl, d1⟩ := d.one
      rw [d1.int]
      exact ⟨_, rfl, h2.1.1, h2.1.2, c _ _ _ _ _ h2.2 R1 s1 wk_range⟩
    · have := av.length
      obtain ⟨w1, w2, rfl, _, _⟩ := d.two
      rw [hl] at this; simp at this
    · exact False.elim h2⟩⟩
theorem LI.range2 [Pn] (hg : Gl X "range") (hm : X.mg "range" = none) (ha : LA X [e, e2] tt) (hs : starEach [e, e2] X.env = [(false, eval e X.env), (false, eval e2 X.env)] := by rfl) (hs2 : starEach [e2] X.env = [(false, eval e2 X.env)] := by rfl) :
    LI X tg (.Call (.Name "range" p) [e, e2] [] pos) (iRg tt) :=
  ⟨piImp (pi_range2 hg hm ha.p hs hs2) fun σ H R ⟨G, ρ, F, Q', Rl, q, c⟩ => ⟨G, ρ, F, _, Rl, q, fun as ρ1 vs H1 F1 h1 hl R1 s1 av => by
    obtain ⟨xs, h2, d⟩ := resA_dr R1 av h1
    split at h2
    · have := av.length
      obtain ⟨w1, rfl, _⟩ := d.one
      rw [hl] at this; simp at this
    · obtain ⟨w, w2, rfl, d1, d2⟩ := d.two
      rw [d1.int, d2.int]
      exact ⟨_, _, rfl, h2.1, c _ _ _ _ _ h2.2 R1 s1 wk_range⟩
    · exact False.elim h2⟩⟩
/-- pairs, each a new tuple -/
theorem wk_pair [Pn] {J : It} {f : Nat → Option V} {g : Nat → Option V} {F1 : Hp} {σ1 : L2.St} {a b : List PD} {n : Nat} {xs : List PD} (hl : xs.length = n)
    (hst : ∀ i F H, Same F1 F → Same F H → n ≤ i → J.stop i H) (hgo : ∀ i F H, Same F1 F → Same F H → i < n → J.go i H)
    (hy : ∀ i F H x H', Same F1 F → Same F H → i < n → J.yld i H x H' → ∃ T u w d1 d2, x = .ref T ∧ H T = none ∧ H' = upd H T (.tup [u, w]) ∧ Df K F1 u d1 ∧ Df K F1 w d2 ∧ xs[i]? = some (.tuple [d1, d2])) : WkOk K J (.items xs) F1 σ1 := by
  intro G i ρ F σ H R s _ _
  refine ⟨fun h => hst i F H s R.fh (by have h : xs.length ≤ i := h; omega), fun h => ?_⟩
  have h : i < xs.length := h
  rw [hl] at h
  refine ⟨hgo i F H s R.fh h, fun x H' y => ?_⟩
  obtain ⟨T, u, w, d1, d2, rfl, hT, rfl, q1, q2, e⟩ := hy i F H x H' s R.fh h y
  have g := Grow.frozen R.fh hT (.tup [u, w])
  exact ⟨_, _, g, e, .tup (SqT.of upd_same) (.cons ((q1.mono s).mono g.ff) (.cons ((q2.mono s).mono g.ff) .nil))⟩
/-- enumerate of a list -/
def enumD (xs : List PD) : List PD := (List.range xs.length).map fun i => .tuple [.int (i : Nat), xs.getD i .none]
def iEnm (t : TD) : TId := fun ρ Q => t ρ fun x ρ1 => match x with
  | .list xs => Q (.items (enumD xs)) ρ1
  | _ => False
theorem enumD_get {xs : List PD} {i : Nat} {d : PD} (h : xs[i]? = some d) : (enumD xs)[i]? = some (.tuple [.int (i : Nat), d]) := by
  unfold enumD
  have hi := (List.getElem?_eq_some_iff.mp h).1
  rw [List.getElem?_map, List.getElem?_range hi]
  simp [List.getD_eq_getElem?_getD, h]
theorem LI.enum [Pn] {elts : List Expr} {kk : Nat} {tpos : Pos} (hg : Gl X "enumerate") (hm : X.mg "enumerate" = none) (h : LD X e ta) (hs : starEach [e] X.env = [(false, eval e X.env)] := by rfl) :
    LI X (.Tuple elts kk tpos) (.Call (.Name "enumerate" p) [e] [] pos) (iEnm ta) :=
  ⟨piImp (pi_enum hg hm (pa_cons h.p pa_nil hs) hs) fun σ H R ⟨G, ρ, F, Q', Rl, q, c⟩ => ⟨G, ρ, F, _, Rl, q, fun x ρ1 v H1 F1 h1 R1 s1 d => by
    split at h1
    · rename_i xs
      cases d with
      | lst hq ds =>
        rename_i a vs
        have hl : vs.length = xs.length := ds.length
        refine ⟨a, vs, rfl, rdSq (rdM R1.fh hq), c _ _ _ _ _ h1 R1 s1 (wk_pair (f := fun _ => none) (g := fun _ => none) (a := []) (b := []) (n := xs.length) (by unfold enumD; simp) ?_ ?_ ?_)⟩
        · exact fun i F H s s2 hi => ⟨vs, rdSq (rdM s2 (rdM s hq)), by omega⟩
        · intro i F H s s2 hi
          exact ⟨vs, vs[i]'(by omega), rdSq (rdM s2 (rdM s hq)), List.getElem?_eq_getElem _⟩
        · intro i F H x H' s s2 hi ⟨T, u, e1, hT, e2, hu⟩
          have hu := hu vs (rdSq (rdM s2 (rdM s hq)))
          obtain ⟨d, hd, du⟩ := ds.get' hu
          exact ⟨T, _, u, .int (i : Nat), d, e1, hT, e2, .int _, du, enumD_get hd⟩
    · exact False.elim h1⟩⟩
/-- zip of two lists, of two tuples -/
def zipD (xs ys : List PD) : List PD := List.zipWith (fun a b => .tuple [a, b]) xs ys
def iZp (t : TAd) : TId := fun ρ Q => t ρ fun as ρ1 => resFA ρ1 as fun xs => match xs with
  | [.list xs, .list ys] => Q (.items (zipD xs ys)) ρ1
  | [.tuple xs, .tuple ys] => Q (.items (zipD xs ys)) ρ1
  | _ => False
theorem zipD_get {xs ys : List PD} {i : Nat} {d d2 : PD} (h : xs[i]? = some d) (h2 : ys[i]? = some d2) : (zipD xs ys)[i]? = some (.tuple [d, d2]) := by
  unfold zipD
  rw [List.getElem?_zipWith, h, h2]
theorem LI.zip [Pn] {elts : List Expr} {kk : Nat} {tpos : Pos} (hg : Gl X "zip") (hm : X.mg "zip" = none) (h : LA X [e, e2] tt)
    (hs : starEach [e, e2] X.env = (false, eval e X.env) :: starEach [e2] X.env := by rfl) (hpl : (backTo pos (starEach [e2] X.env)).any (·.1) = false := by rfl) :
    LI X (.Tuple elts kk tpos) (.Call (.Name "zip" p) [e, e2] [] pos) (iZp tt) :=
  ⟨piImp (RZ.pi_zipA hg hm h.p hs hpl) fun σ H R ⟨G, ρ, F, Q', Rl, q, c⟩ => ⟨G, ρ, F, _, Rl, q, fun as ρ1 us H1 F1 h1 hln R1 s1 av => by
    obtain ⟨zs, h2, dz⟩ := resFA_df R1 av h1
    split at h2
    · rename_i xs ys
      cases dz with | cons d dz => cases dz with | cons d2 dz => cases dz; cases d with | lst hq ds => cases d2 with | lst hq2 ds2 =>
        rename_i a vs b ws
        have hl : vs.length = xs.length := ds.length
        have hl2 : ws.length = ys.length := ds2.length
        refine ⟨a, b, vs, ws, rfl, .inl ⟨rdSq (rdM R1.fh hq), rdSq (rdM R1.fh hq2), c _ _ _ _ _ h2 R1 s1 (wk_pair (f := fun _ => none) (g := fun _ => none) (a := []) (b := []) (n := min xs.length ys.length) (by unfold zipD; simp) ?_ ?_ ?_)⟩⟩
        · exact fun i F H s s2 hi => ⟨vs, ws, rdSq (rdM s2 (rdM s hq)), rdSq (rdM s2 (rdM s hq2)), by omega⟩
        · intro i F H s s2 hi
          exact ⟨vs, ws, vs[i]'(by omega), ws[i]'(by omega), rdSq (rdM s2 (rdM s hq)), rdSq (rdM s2 (rdM s hq2)), List.getElem?_eq_getElem _, List.getElem?_eq_getElem _⟩
        · intro i F H x H' s s2 hi ⟨T, u, w, e1, hT, e2, hu, hw⟩
          have hu := hu vs (rdSq (rdM s2 (rdM s hq)))
          have hw := hw ws (rdSq (rdM s2 (rdM s hq2)))
          obtain ⟨d, hd, du⟩ := ds.get' hu
          obtain ⟨d', hd', dw⟩ := ds2.get' hw
          exact ⟨T, u, w, d, d', e1, hT, e2, du, dw, zipD_get hd hd'⟩
    · rename_i xs ys
      cases dz with | cons d dz => cases dz with | cons d2 dz => cases dz; cases d with | tup hq ds => cases d2 with | tup hq2 ds2 =>
        rename_i a vs b ws
        have hl : vs.length = xs.length := ds.length
        have hl2 : ws.length = ys.length := ds2.length
        refine ⟨a, b, vs, ws, rfl, .inr ⟨seqT R1.fh hq, seqT R1.fh hq2, c _ _ _ _ _ h2 R1 s1 (wk_pair (f := fun _ => none) (g := fun _ => none) (a := []) (b := []) (n := min xs.length ys.length) (by unfold zipD; simp) ?_ ?_ ?_)⟩⟩
        · exact fun i F H s s2 hi => ⟨vs, ws, seqT s2 (seqT s hq), seqT s2 (seqT s hq2), by omega⟩
        · intro i F H s s2 hi
          exact ⟨vs, ws, vs[i]'(by omega), ws[i]'(by omega), seqT s2 (seqT s hq), seqT s2 (seqT s hq2), List.getElem?_eq_getElem _, List.getElem?_eq_getElem _⟩
        · intro i F H x H' s s2 hi ⟨T, u, w, e1, hT, e2, hu, hw⟩
          have hu := hu vs (seqT s2 (seqT s hq))
          have hw := hw ws (seqT s2 (seqT s hq2))
          obtain ⟨d, hd, du⟩ := ds.get' hu
          obtain ⟨d', hd', dw⟩ := ds2.get' hw
          exact ⟨T, u, w, d, d', e1, hT, e2, du, dw, zipD_get hd hd'⟩
    · exact False.elim h2⟩⟩

/-! ### for -/
def sFor (src : TId) (pt : Pt) (b : TSt) : TSt := fun D ρ => src ρ fun w ρ1 => ∃ xs, w = .items xs ∧ ∃ I : Nat → En → Prop, I 0 ρ1 ∧
  (∀ i x ρ2, xs[i]? = some x → I i ρ2 → pt.go x ρ2 fun ρ3 => b { D with nx := I (i + 1), ct := I (i + 1), bk := D.nx } ρ3) ∧ ∀ ρ2, I xs.length ρ2 → D.nx ρ2
theorem LS.for [Pn] {src : TId} {pt : Pt} (hp : PassesOwn (model X.prog X.w) X.A X.env X.xe) (hc : X.calm = true) (hi : LI X tg e src) (hg : PG X tg (pt.tg X.K)) (hb : LSs X sts t)
    (hs : ∀ x, foldedSetIterable e X.env x = pure x := by intro _; rfl) : LS X (.For tg e sts [] pos) (sFor src pt t) := ⟨psImp (ps_for hp hc hi.p hg hb.p hs) fun D σ H ⟨G, ρ, F, D', R, q, k⟩ => ⟨G, ρ, F, _, R, q, fun w ρ1 H1 F1 J h1 R1 s1 wk => by
  obtain ⟨xs, rfl, I, i0, turn, fin⟩ := h1
  refine ⟨fun i m σ H => m = xs.length - i ∧ i ≤ xs.length ∧ ∃ ρ2 F2, Rel X.K G ρ2 F2 σ H ∧ Same F1 F2 ∧ I i ρ2, ⟨xs.length, rfl, Nat.zero_le _, ρ1, F1, R1, Same.refl _, i0⟩, ?_⟩
  rintro i m σ2 H2 ⟨rfl, hi, ρ2, F2, R2, s2, i2⟩
  obtain ⟨wstop, wgo⟩ := wk G i ρ2 F2 σ2 H2 R2 s2 trivial trivial
  by_cases hlt : i < xs.length
  · obtain ⟨go, yld⟩ := wgo hlt
    refine .inr ⟨go, fun σ' H' => ∃ ρ' F', Rel X.K G ρ' F' σ' H' ∧ Same F1 F' ∧ I (i + 1) ρ', fun σ' H' ⟨ρ', F', R', s', i'⟩ => ⟨_, by omega, rfl, hlt, ρ', F', R', s', i'⟩, fun x H' y => ?_⟩
    obtain ⟨F', d, g, ed, dd⟩ := yld x H' y
    refine pt_go pt (R2.grow g) dd (turn i d ρ2 ed i2) fun ρ3 σ3 q3 R3 _ => ?_
    have s3 := s1.trans (s2.trans g.ff)
    exact ⟨G, ρ3, F', _, R3, q3, ⟨fun ρ4 σ4 H4 F4 h R s => ⟨ρ4, F4, R, (s2.trans g.ff).trans s, h⟩, fun l ρ4 v σ4 H4 F4 h R s r => k.rt _ _ _ _ _ _ h R (s3.trans s) r,
      fun ρ4 σ4 H4 F4 h R s => k.nx _ _ _ _ h R (s3.trans s), fun ρ4 σ4 H4 F4 h R s => ⟨ρ4, F4, R, (s2.trans g.ff).trans s, h⟩⟩⟩
  · have ei : i = xs.length := by omega
    subst ei
    exact .inl ⟨wstop (Nat.le_refl _), k.nx _ _ _ _ (fin ρ2 i2) R2 (s1.trans s2)⟩⟩⟩
end
end DL
/-! The data layer, part h: comprehensions, calls of defs, defs. -/
namespace DL
open PySem L2 PyProof.Rows

section
variable {G : Gm} {X : Cx} {K : PySem.W.Frag} {F F' F1 F2 H H' H1 : Hp} {ρ ρ1 ρ2 : En} {σ : L2.St} {e e2 e3 tg elt iter : Expr} {es ifs : List Expr} {pos : Pos} {oa ob oc : Op1} {ta tb el : TD} {c : TTd} {st : Stmt} {sts sts2 : List Stmt} {t u : TSt} {tf tf2 : TF} {v : V} {x : PD}

/-! ### the slots of a comprehension's own names -/
def wipeE (ρ : En) : List Nat → En
  | [] => ρ
  | v :: vs => (wipeE ρ vs).set v none
def restE (ρ1 ρ2 : En) : List Nat → En
  | [] => ρ2
  | j :: js => (restE ρ1 ρ2 js).set j (ρ1.getD j none)
def lcFree (ρ : En) (vs : List Nat) : Bool := vs.all fun j => match ρ[j]? with
  | some (some l) => !l.own
  | _ => true
theorem wipe_ne {vs : List Nat} {i : Nat} (h : i ∉ vs) : (wipe σ vs)[i]? = σ[i]? := by
  induction vs with
  | nil => rfl
  | cons v vs ih =>
    show ((wipe σ vs).set v none)[i]? = σ[i]?
    rw [List.getElem?_set_ne (fun z => h (by rw [z]; exact List.mem_cons_self))]
    exact ih fun z => h (List.mem_cons_of_mem _ z)
theorem wipeE_length (vs : List Nat) : (wipeE ρ vs).length = ρ.length := by
  induction vs with
  | nil => rfl
  | cons v vs ih => show ((wipeE ρ vs).set v none).length = _; rw [List.length_set, ih]
theorem wipeE_get {vs : List Nat} {i : Nat} {l : Lc} (h : (wipeE ρ vs)[i]? = some (some l)) : i ∉ vs ∧ ρ[i]? = some (some l) := by
  induction vs with
  | nil => exact ⟨by simp, h⟩
  | cons v vs ih =>
    have h : ((wipeE ρ vs).set v none)[i]? = some (some l) := h
    rcases set_get h with ⟨_, _, z⟩ | ⟨hne, h⟩
    · cases z
    · obtain ⟨h1, h2⟩ := ih h
      exact ⟨by simp only [List.mem_cons, not_or]; exact ⟨hne, h1⟩, h2⟩
theorem restE_length (vs : List Nat) : (restE ρ1 ρ2 vs).length = ρ2.length := by
  induction vs with
  | nil => rfl
  | cons v vs ih => show ((restE ρ1 ρ2 vs).set v _).length = _; rw [List.length_set, ih]
theorem restE_get {vs : List Nat} {i : Nat} {l : Lc} (h : (restE ρ1 ρ2 vs)[i]? = some (some l)) : (i ∈ vs ∧ ρ1[i]? = some (some l)) ∨ (i ∉ vs ∧ ρ2[i]? = some (some l)) := by
  induction vs with
  | nil => exact .inr ⟨by simp, h⟩
  | cons v vs ih =>
    have h : ((restE ρ1 ρ2 vs).set v (ρ1.getD v none))[i]? = some (some l) := h
    rcases set_get h with ⟨rfl, _, z⟩ | ⟨hne, h⟩
    · refine .inl ⟨List.mem_cons_self, ?_⟩
      rw [List.getD_eq_getElem?_getD] at z
      cases q : ρ1[i]? with
      | none => rw [q] at z; simp at z
      | some w => rw [q] at z; simp at z; rw [← z]
    · rcases ih h with ⟨a, b⟩ | ⟨a, b⟩
      · exact .inl ⟨List.mem_cons_of_mem _ a, b⟩
      · exact .inr ⟨by simp only [List.mem_cons, not_or]; exact ⟨hne, a⟩, b⟩
theorem wipe_eq {σ' : L2.St} {vs : List Nat} (hl : σ'.length = σ.length) (h : ∀ j, j ∉ vs → σ'[j]? = σ[j]?) : wipe σ' vs = wipe σ vs := by
  have key : ∀ {τ : L2.St} {i : Nat}, i < τ.length → i ∈ vs → (wipe τ vs)[i]? = some none := by
    intro τ i hi hm
    clear h
    induction vs with
    | nil => simp at hm
    | cons v vs ih =>
      show ((wipe τ vs).set v none)[i]? = _
      by_cases hv : v = i
      · subst hv; rw [List.getElem?_set_self (by rw [wipe_length]; exact hi)]
      · rw [List.getElem?_set_ne hv]
        exact ih ((List.mem_cons.mp hm).resolve_left (Ne.symm hv))
  apply List.ext_getElem?
  intro i
  by_cases hm : i ∈ vs
  · by_cases hi : i < σ.length
    · rw [key (by rw [hl]; exact hi) hm, key hi hm]
    · rw [List.getElem?_eq_none (by rw [wipe_length, hl]; omega), List.getElem?_eq_none (by rw [wipe_length]; omega)]
  · rw [wipe_ne hm, wipe_ne hm, h i hm]
theorem wipe_only {σ' : L2.St} {is vs : List Nat} (hs : ∀ i ∈ is, i ∈ vs) (o : Only is (wipe σ vs) σ') : wipe σ' vs = wipe σ vs := by
  refine wipe_eq (by rw [o.1, wipe_length]) fun j hj => ?_
  rw [o.2 j fun z => hj (hs j z), wipe_ne hj]
theorem Rel.wipe [Pn] (R : Rel K G ρ F σ H) (vs : List Nat) {σ' : L2.St} (hl : σ'.length = σ.length) (h : ∀ j, j ∉ vs → σ'[j]? = σ[j]?) : Rel K G (wipeE ρ vs) F σ' H :=
  R.weak (by rw [wipeE_length, hl]; exact R.len) fun i l e => ⟨(wipeE_get e).2, h i (wipeE_get e).1⟩
theorem Rel.rest [Pn] (R1 : Rel K G ρ1 F1 σ H1) (vs : List Nat) (hf : lcFree ρ1 vs = true) (R2 : Rel K G (wipeE ρ2 vs) F2 (L2.wipe σ vs) H) (s : Same F1 F2) : Rel K G (restE ρ1 (wipeE ρ2 vs) vs) F2 σ H := by
  have nown : ∀ {i : Nat} {l : Lc}, i ∈ vs → ρ1[i]? = some (some l) → l.own = false := fun {i l} hi e => by
    have := List.all_eq_true.mp hf i hi
    rw [e] at this
    simpa using this
  refine ⟨R2.fh, R2.ff, R2.fr, R2.nw, R2.ih, ?_, fun i l e => ?_, fun i j l m v e1 e2 h1 h2 e3 e4 => ?_, R2.ok, fun i l b xs e hb => ?_⟩
  · rw [restE_length, ← R2.len, wipe_length]
  · rcases restE_get e with ⟨hi, e⟩ | ⟨hi, e⟩
    · have z := R1.sl i l e
      rcases not_own (nown hi e) with ⟨x, rfl⟩ | ⟨w, rfl⟩
      · obtain ⟨v, e1, d⟩ := z; exact ⟨v, e1, d.mono s⟩
      · obtain ⟨v, e1, d⟩ := z; exact ⟨v, e1, d.mono s⟩
    · have z := R2.sl i l e
      rw [wipe_ne hi] at z; exact z
  · rcases restE_get e1 with ⟨hi, q⟩ | ⟨hi, q⟩
    · rw [nown hi q] at h1; cases h1
    · rcases restE_get e2 with ⟨hj, q2⟩ | ⟨hj, q2⟩
      · rw [nown hj q2] at h2; cases h2
      · exact R2.ds i j l m v q q2 h1 h2 (by rw [wipe_ne hi]; exact e3) (by rw [wipe_ne hj]; exact e4)
  · rcases restE_get e with ⟨hi, q⟩ | ⟨hi, q⟩
    · rw [Lc.fp_own (nown hi q)] at hb; cases hb
    · obtain ⟨z, w⟩ := R2.ns i l b xs q hb
      refine ⟨z, fun j m e2 => ?_⟩
      rcases restE_get e2 with ⟨hj, q2⟩ | ⟨hj, q2⟩
      · have no := nown hj q2
        exact ⟨fun z => (by rw [no] at z; cases z), fun ys hy => (by rw [Lc.fp_own no] at hy; cases hy)⟩
      · have := w j m q2
        rw [wipe_ne hj] at this; exact this
/-- an object beside the frame is changed -/
theorem Rel.side [Pn] {p : Addr} {o : HO} (R : Rel K G ρ F σ H) (hF : F p = none) (h0 : G.H0 p = none) (hf : ∀ (j : Nat) (m : Lc), ρ[j]? = some (some m) → m.own = true → σ[j]? ≠ some (some (.ref p))) (hn : NoN ρ p) : Rel K G ρ F σ (upd H p o) := by
  refine ⟨fun b u q => ?_, R.ff, fun b u q hb => ?_, R.nw, fun b hb => ⟨?_, (R.ih b hb).2⟩, R.len, fun i l e => ?_, R.ds, R.ok, fun i l b xs e hb => ⟨⟨(R.ns i l b xs e hb).1.nf, (R.ns i l b xs e hb).1.ow, ?_⟩, (R.ns i l b xs e hb).2⟩⟩
  · rw [upd_ne (ne_of_none q hF)]; exact R.fh _ _ q
  · rw [upd_ne (ne_of_none q h0)]; exact R.fr b u q hb
  · by_cases hbp : b = p
    · subst hbp; rw [upd_same]; simp
    · rw [upd_ne hbp]; exact (R.ih b hb).1
  · have z := R.sl i l e
    cases hl : l.own with
    | true =>
      rw [own_slot hl] at z ⊢
      obtain ⟨a, e1, nf, ow, ob, eo, ok⟩ := z
      have : a ≠ p := fun q => hf i l e hl (by rw [e1, q])
      exact ⟨a, e1, nf, ow, ob, by rw [upd_ne this]; exact eo, ok⟩
    | false =>
      rcases not_own hl with ⟨x, rfl⟩ | ⟨w, rfl⟩
      · exact z
      · exact z
  · obtain ⟨vs, z1, z2⟩ := (R.ns i l b xs e hb).1.ob
    exact ⟨vs, by rw [upd_ne fun q => hn i l xs e (by rw [← q]; exact hb)]; exact z1, z2⟩

/-! ### list comprehensions -/
def Wk.apart (vs : List Nat) : Wk → Bool
  | .items _ => true
  | .own s _ _ => !vs.contains s
  | .nst _ _ _ _ => true
def fLc (src : TId) (vs : List Nat) (pt : Pt) (c : TTd) (el : TD) : TF := fun ρ Q => src ρ fun w ρ1 => (lcFree ρ1 vs = true ∧ w.apart vs = true) ∧ ∃ I : Nat → List PD → En → Prop, I 0 [] (wipeE ρ1 vs) ∧
  (∀ i acc ρ2, I i acc ρ2 → w.keeps ρ2) ∧
  (∀ i x acc ρ2, w.list[i]? = some x → I i acc ρ2 → pt.go x ρ2 fun ρ3 => c ρ3 fun b ρ4 => brB b (el ρ4 fun y ρ5 => acc.length < sizeLine ∧ I (i + 1) (acc ++ [y]) (wipeE ρ5 vs)) (I (i + 1) acc (wipeE ρ4 vs))) ∧
  ∀ acc ρ2, I w.list.length acc ρ2 → Q (.ls none acc) (restE ρ1 ρ2 vs)
theorem tLc_of [Pn] {src : TId} {vs : List Nat} {pt : Pt} (hs : ∀ i ∈ pt.slots, i ∈ vs) {Q : VK} (h : liftF K (fLc src vs pt c el) σ H Q) : tLc (liftI K src) (pt.tg K) (liftT K c) (liftD K el) vs σ H Q := by
  obtain ⟨G, ρ, F, Q', R, q, k⟩ := h
  refine ⟨G, ρ, F, _, R, q, fun w ρ1 H1 F1 J q1 R1 s1 wk D hD => ?_⟩
  obtain ⟨⟨hfree, hap⟩, I, i0, ikeep, turn, fin⟩ := q1
  have h0 : G.H0 D = none := R1.h0 hD
  have dio : D ∉ G.io := fun z => (R1.ih D z).2 h0
  have kS : w.keepS (L2.wipe σ vs) σ := by
    cases w with
    | items xs => trivial
    | nst s nm b xs => trivial
    | own s p xs =>
      have : s ∉ vs := by simpa [Wk.apart] using hap
      exact wipe_ne this
  let Hd := fun (i : Nat) (H : Hp) => ∃ ρ2 F2 accV acc, Rel K G (wipeE ρ2 vs) F2 (L2.wipe σ vs) H ∧ Same F1 F2 ∧ H D = some (.lst accV) ∧ DfA K F2 accV acc ∧ F2 D = none ∧ NoN (wipeE ρ2 vs) D ∧
    (∀ (j : Nat) (m : Lc), (wipeE ρ2 vs)[j]? = some (some m) → m.own = true → (L2.wipe σ vs)[j]? ≠ some (some (.ref D))) ∧ I i acc (wipeE ρ2 vs)
  have start : Hd 0 (upd H1 D (.lst [])) := by
    have Rw := R1.wipe vs (σ' := L2.wipe σ vs) (wipe_length σ vs) fun j hj => wipe_ne hj
    refine ⟨ρ1, F1, [], [], Rw.grow (Grow.owned R1.fh hD _), Same.refl _, upd_same, .nil, R1.fh.free hD, ((R1.noN_free hD).sub fun j m e => (wipeE_get e).2), fun j m e hm z => ?_, i0⟩
    obtain ⟨a, e1, _, _, ob, eo, _⟩ := Rw.at_ e hm
    rw [z] at e1
    have : D = a := by simpa using e1
    subst this
    rw [hD] at eo; cases eo
  refine ⟨fun i m H => m = w.list.length - i ∧ i ≤ w.list.length ∧ Hd i H, ⟨w.list.length, rfl, Nat.zero_le _, start⟩, ?_⟩
  rintro i m H2 ⟨rfl, hi, ρ2, F2, accV, acc, R2, s2, hDv, dA, fD, nN, nD, i2⟩
  obtain ⟨wstop, wgo⟩ := wk G i _ F2 _ H2 R2 s2 (ikeep _ _ _ i2) kS
  by_cases hlt : i < w.list.length
  · obtain ⟨go, yld⟩ := wgo hlt
    refine .inr ⟨go, Hd (i + 1), fun H' h => ⟨_, by omega, rfl, hlt, h⟩, fun x H' y => ?_⟩
    obtain ⟨F', d, g, ed, dd⟩ := yld x H' y
    have R3 := R2.grow g
    have fD' : F' D = none := by
      cases q : F' D with
      | none => rfl
      | some u =>
        rcases g.nw D (by rw [q]; simp) fD with this | ⟨us, this⟩
        · rw [hDv] at this; cases this
        · have this := g.fh _ _ this
          rw [g.hh _ _ hDv] at this; cases this
    have Rp := R3.pin fD' (g.hh _ _ hDv) h0 nD nN
    refine pt_go pt Rp dd (turn i d acc _ ed i2) fun ρ3 σ3 q3 R4 o3 => ⟨wipe_only hs o3, G.pin D (.lst accV), ρ3, F', _, R4, q3, fun b ρ4 H4 F4 h4 R5 s5 => ?_⟩
    have hj : ∀ j, j ∉ vs → (L2.wipe σ vs)[j]? = σ3[j]? := fun j hj => (o3.2 j fun z => hj (hs j z)).symm
    have hl3 : (L2.wipe σ vs).length = σ3.length := o3.1.symm
    cases b with
    | false =>
      obtain ⟨R6, f6, h6, n6⟩ := R5.unpin R1.ok h0 (R1.ff.free (R1.fh.free hD)) dio
      refine iteF ⟨ρ4, F4, accV, acc, R6.wipe vs hl3 hj, s2.trans (g.ff.trans s5), h6, dA.mono (g.ff.trans s5), f6, ((R5.unpinN dio).sub fun j m e => (wipeE_get e).2), fun j m e hm z => ?_, h4.2 rfl⟩
      obtain ⟨a, b⟩ := wipeE_get e
      exact n6 j m b hm (by rw [← hj j a]; exact z)
    | true =>
      refine iteT ⟨G.pin D (.lst accV), ρ4, F4, _, R5, h4.1 rfl, fun y ρ5 u H5 F5 h5 R7 s7 dy => ?_⟩
      obtain ⟨hlen, h5⟩ := h5
      obtain ⟨R6, f6, h6, n6⟩ := R7.unpin R1.ok h0 (R1.ff.free (R1.fh.free hD)) dio
      have sA := g.ff.trans (s5.trans s7)
      refine ⟨accV, h6, by rw [dA.length]; exact hlen, ρ5, F5, accV ++ [u], acc ++ [y], ?_, s2.trans sA, upd_same, (dA.mono sA).snoc dy, f6, ((R7.unpinN dio).sub fun j m e => (wipeE_get e).2), fun j m e hm z => ?_, h5⟩
      · exact (R6.side f6 h0 n6 (R7.unpinN dio)).wipe vs hl3 hj
      · obtain ⟨a, b⟩ := wipeE_get e
        exact n6 j m b hm (by rw [← hj j a]; exact z)
  · have ei : i = w.list.length := by omega
    subst ei
    refine .inl ⟨wstop (Nat.le_refl _), k (.ls none acc) _ _ H2 F2 (fin acc _ i2) (R1.rest vs hfree R2 s2) (s1.trans s2) ⟨D, rfl, rfl, ⟨fD, h0, _, hDv, dA⟩, ⟨fun j m e hm z => ?_, fun j m ys e hy => ?_, .nil rfl⟩⟩⟩
    · rcases restE_get e with ⟨hj, e⟩ | ⟨hj, e⟩
      · have := List.all_eq_true.mp hfree j hj
        rw [e] at this
        have this : (!m.own) = true := this
        rw [hm] at this; cases this
      · exact nD j m e hm (by rw [wipe_ne hj]; exact z)
    · rcases restE_get e with ⟨hj, e⟩ | ⟨hj, e⟩
      · have := List.all_eq_true.mp hfree j hj
        rw [e] at this
        have this : (!m.own) = true := this
        rw [Lc.fp_own (by simpa using this)] at hy; cases hy
      · exact nN j m ys e hy
def cYes : TTd := fun ρ Q => Q true ρ
theorem LT.yes [Pn] : ∀ {X : Cx}, PTs X [] (liftT X.K cYes) := fun {X} => ⟨fun pins s σ H Q I h => pts_nil.run pins s σ H Q I (by
  obtain ⟨G, ρ, F, Q', R, q, k⟩ := h
  exact k _ _ _ _ q R (Same.refl _))⟩
/-- as a value -/
theorem LF.lc [Pn] {scope : Scope} {own : List (Str × Nat)} {vs : List Nat} {src : TId} {pt : Pt} (hc : X.calm = true) (hN : X.N.Nodup) (hi : LI X tg iter src) (ok : BlkOk X.N X.env.scope scope own) (hv : own.map (·.2) = vs) (hs : ∀ i ∈ pt.slots, i ∈ vs)
    (hg : ∀ (s : Shared) (H : Hp) (C : Addr) (cl : List (Str × Addr)) (fp : List Addr), PG (X.blk s H scope (compEnvC scope cl C X.env) fp) tg (pt.tg X.K)) (ht : ∀ (s : Shared) (H : Hp) (C : Addr) (cl : List (Str × Addr)) (fp : List Addr), PTs (X.blk s H scope (compEnvC scope cl C X.env) fp) ifs (liftT X.K c))
    (he : ∀ (s : Shared) (H : Hp) (C : Addr) (cl : List (Str × Addr)) (fp : List Addr), LD (X.blk s H scope (compEnvC scope cl C X.env) fp) elt el) (hf : ∀ x, foldedSetIterable iter X.env x = pure x := by intro _; rfl) :
    LF X (.ListComp elt [⟨tg, iter, ifs, 0⟩] scope pos) (fLc src vs pt c el) := ⟨peImp (pe_lc hc hN hi.p ok hg ht (fun s H C cl fp => (he s H C cl fp).p) hf) fun σ H Q h => by rw [hv]; exact tLc_of hs h⟩
/-- name = [..] -/
theorem LS.lc [Pn] {i : Nat} {y : Str} {py spos : Pos} {scope : Scope} {own : List (Str × Nat)} {vs : List Nat} {src : TId} {pt : Pt} (hc : X.calm = true) (hN : X.N.Nodup) (hy : X.N[i]? = some y) (hyl : X.env.scope.names.lookup y = some .local)
    (hsw : swapsWith (.ListComp elt [⟨tg, iter, ifs, 0⟩] scope pos) (some (.Name y py)) spos.line X.env = pure true) (hi : LI X tg iter src) (ok : BlkOk X.N X.env.scope scope own) (hv : own.map (·.2) = vs) (hs : ∀ i ∈ pt.slots, i ∈ vs)
    (hg : ∀ (s : Shared) (H : Hp) (C : Addr) (cl : List (Str × Addr)) (fp : List Addr), PG (X.blk s H scope (compEnvC scope cl C X.env) fp) tg (pt.tg X.K)) (ht : ∀ (s : Shared) (H : Hp) (C : Addr) (cl : List (Str × Addr)) (fp : List Addr), PTs (X.blk s H scope (compEnvC scope cl C X.env) fp) ifs (liftT X.K c))
    (he : ∀ (s : Shared) (H : Hp) (C : Addr) (cl : List (Str × Addr)) (fp : List Addr), LD (X.blk s H scope (compEnvC scope cl C X.env) fp) elt el) (hf : ∀ x, foldedSetIterable iter X.env x = pure x := by intro _; rfl) :
    LS X (.Assign [.Name y py] (.ListComp elt [⟨tg, iter, ifs, 0⟩] scope pos) spos) (sAsg i (fLc src vs pt c el)) := ⟨psImp (ps_setLc hc hN hy hyl hsw hi.p ok hg ht (fun s H C cl fp => (he s H C cl fp).p) hf) fun D σ H ⟨G, ρ, F, D', R, q, k⟩ => by
  have h : liftF X.K (fLc src vs pt c el) σ H (fun x H1 => gName i x σ H1 D.nx) := ⟨G, ρ, F, _, R, q, fun l ρ1 v H1 F1 h1 R1 s1 r1 => k.nx _ _ _ _ h1 (r1.store R1 i) s1⟩
  show tLc _ _ _ _ (own.map (·.2)) σ H _
  rw [hv]
  exact tLc_of hs h⟩

/-! ### calls of defs -/
/-- a def's promise over data: its arguments (own lists handed in as the k-th: tag k), what is wanted of the result and of the lists handed in -/
structure FSpec where
  sp : List Lc → (Lc → List Lc → Prop) → Prop
def ArgOk (K : PySem.W.Frag) (F H : Hp) (ios : List Addr) : Lc → V → Prop
  | .d x, v => Df K F v x
  | .sc xs, v => ScOk K F xs v
  | l, v => ∃ a k, v = .ref a ∧ l.tag = some k ∧ ios[k]? = some a ∧ F a = none ∧ (∃ o, H a = some o ∧ HoOk K F l o) ∧ ∀ b xs, (b, xs) ∈ l.fp → F b = none ∧ ∃ vs, H b = some (.lst vs) ∧ DfA K F vs xs
inductive ArgsOk (K : PySem.W.Frag) (F H : Hp) (ios : List Addr) : List Lc → List V → Prop
  | nil : ArgsOk K F H ios [] []
  | cons {l : Lc} {v : V} {ls : List Lc} {vs : List V} : ArgOk K F H ios l v → ArgsOk K F H ios ls vs → ArgsOk K F H ios (l :: ls) (v :: vs)
def tags (ls : List Lc) : List Nat := ls.filterMap Lc.tag
/-- the own lists in own things handed in, with the places of these -/
def nioOf : List Lc → List (Nat × Addr)
  | [] => []
  | l :: r => (match l.tag with
    | some k => l.fp.map fun x => (k, x.1)
    | none => []) ++ nioOf r
theorem nioOf_mem : ∀ {args : List Lc} {k : Nat} {b : Addr}, (k, b) ∈ nioOf args → ∃ (i : Nat) (l : Lc) (xs : List PD), args[i]? = some l ∧ l.tag = some k ∧ (b, xs) ∈ l.fp
  | [], k, b, h => by cases h
  | l :: r, k, b, h => by
    unfold nioOf at h
    rcases List.mem_append.mp h with h | h
    · cases e : l.tag with
      | none => rw [e] at h; cases h
      | some j =>
        rw [e] at h
        obtain ⟨x, hx, ex⟩ := List.mem_map.mp h
        have e1 : j = k := (Prod.mk.inj ex).1
        have e2 : x.1 = b := (Prod.mk.inj ex).2
        exact ⟨0, l, x.2, rfl, by rw [e, e1], by rw [← e2]; exact hx⟩
    · obtain ⟨i, m, xs, z⟩ := nioOf_mem h
      exact ⟨i + 1, m, xs, by simpa using z⟩
theorem nioOf_in : ∀ {args : List Lc} {i k : Nat} {l : Lc} {b : Addr} {xs : List PD}, args[i]? = some l → l.tag = some k → (b, xs) ∈ l.fp → (k, b) ∈ nioOf args
  | [], i, k, l, b, xs, e, _, _ => by simp at e
  | a :: r, i, k, l, b, xs, e, t, h => by
    unfold nioOf
    refine List.mem_append.mpr ?_
    cases i with
    | zero =>
      simp at e; subst e
      rw [t]
      exact .inl (List.mem_map.mpr ⟨(b, xs), h, rfl⟩)
    | succ i => exact .inr (nioOf_in (by simpa using e) t h)
/-- the own things handed in: n of them, and behind them the lists in them -/
structure IoOk (H : Hp) (ios : List Addr) (n : Nat) (args : List Lc) : Prop where
  nd : ios.Nodup
  ex : ∀ a ∈ ios, H a ≠ none
  tg : tags args = List.range n
  le : n ≤ ios.length
  nx : ∀ k b, (k, b) ∈ nioOf args → b ∈ ios.drop n
  dj : ∀ (i j : Nat) (l m : Lc) (b : Addr) (xs ys : List PD), args[i]? = some l → args[j]? = some m → (b, xs) ∈ l.fp → (b, ys) ∈ m.fp → i = j
theorem drop_ne {ios : List Addr} {n k : Nat} {a b : Addr} (nd : ios.Nodup) (h : b ∈ ios.drop n) (hk : k < n) (e : ios[k]? = some a) : a ≠ b := fun q => by
  subst q
  obtain ⟨j, hj, ej⟩ := List.getElem_of_mem h
  rw [List.getElem_drop] at ej
  obtain ⟨hk', ek⟩ := List.getElem?_eq_some_iff.mp e
  have hj2 : n + j < ios.length := by rw [List.length_drop] at hj; omega
  have := (List.getElem_inj (h₀ := hj2) (h₁ := hk') nd).mp (ej.trans ek.symm)
  omega
structure Post (K : PySem.W.Frag) (F H : Hp) (ios : List Addr) (n : Nat) (nio : List (Nat × Addr)) (r : Lc) (outs : List Lc) (v : V) (F' H' : Hp) : Prop where
  ff : Same F F'
  fh : Same F' H'
  fr : ∀ b o, H b = some o → b ∉ ios → H' b = some o
  nw : ∀ b, F' b ≠ none → F b = none → H b = none ∨ ∃ us, F' b = some (.tup us)
  ol : outs.length = n
  ou : ∀ (k : Nat) (l : Lc), outs[k]? = some l → ∃ a o, ios[k]? = some a ∧ F' a = none ∧ H' a = some o ∧ HoOk K F' l o ∧ l.tag = some k
  hx : ∀ a ∈ ios, H' a ≠ none
  on : ∀ (k : Nat) (l : Lc) (b : Addr) (xs : List PD), outs[k]? = some l → (b, xs) ∈ l.fp → (F' b = none ∧ (H b = none ∨ (k, b) ∈ nio) ∧ ∃ vs, H' b = some (.lst vs) ∧ DfA K F' vs xs) ∧ (∀ k', k' < n → ios[k']? ≠ some b) ∧ ∀ (k' : Nat) (m : Lc) (ys : List PD), outs[k']? = some m → (b, ys) ∈ m.fp → k' = k
  rs : match r with
    | .d x => Df K F' v x
    | .sc xs => ScOk K F' xs v
    | l => ∃ a o, v = .ref a ∧ H a = none ∧ F' a = none ∧ H' a = some o ∧ HoOk K F' l o ∧ l.tag = none
  rn : ∀ (b : Addr) (xs : List PD), (b, xs) ∈ r.fp → (F' b = none ∧ H b = none ∧ ∃ vs, H' b = some (.lst vs) ∧ DfA K F' vs xs) ∧ v ≠ .ref b ∧ ∀ (k : Nat) (m : Lc) (ys : List PD), outs[k]? = some m → (b, ys) ∉ m.fp
  ra : ∀ a, r.own = true → v = .ref a → ∀ (k : Nat) (m : Lc) (ys : List PD), outs[k]? = some m → (a, ys) ∉ m.fp
def liftC (K : PySem.W.Frag) (S : FSpec) : Sp := fun vs H Q _ => ∃ args F ios n Qd, Same F H ∧ ArgsOk K F H ios args vs ∧ IoOk H ios n args ∧
  S.sp args Qd ∧ ∀ r outs v F' H', Qd r outs → Post K F H ios n (nioOf args) r outs v F' H' → Q v H'
theorem ArgsOk.length {ios : List Addr} {ls : List Lc} {vs : List V} (h : ArgsOk K F H ios ls vs) : ls.length = vs.length := by
  induction h with
  | nil => rfl
  | cons _ _ ih => rw [List.length_cons, List.length_cons, ih]
def argsAt (ρ : En) : List AV → Nat → Option (List Lc × List Nat)
  | [], _ => some ([], [])
  | .v x :: r, k => (argsAt ρ r k).map fun p => (.d x :: p.1, p.2)
  | .s i :: r, k => match ρ[i]? with
    | some (some (.d x)) => (argsAt ρ r k).map fun p => (.d x :: p.1, p.2)
    | some (some (.sc xs)) => (argsAt ρ r k).map fun p => (.sc xs :: p.1, p.2)
    | some (some l) => (argsAt ρ r (k + 1)).map fun p => (l.retag (some k) :: p.1, i :: p.2)
    | _ => none
  | .f _ _ _ :: _, _ => none
def nodupB : List Nat → Bool
  | [] => true
  | i :: r => !r.contains i && nodupB r
theorem nodup_of {is : List Nat} (h : nodupB is = true) : is.Nodup := by
  induction is with
  | nil => exact List.nodup_nil
  | cons i r ih =>
    unfold nodupB at h
    rw [Bool.and_eq_true] at h
    exact List.nodup_cons.mpr ⟨by simpa using h.1, ih h.2⟩
def tagAt (ρ : En) (i : Nat) : Option Nat := match ρ[i]? with
  | some (some l) => l.tag
  | _ => none
def putO (ρ0 : En) : En → List Nat → List Lc → En
  | ρ, i :: is, l :: ls => putO ρ0 (ρ.set i (some (l.retag (tagAt ρ0 i)))) is ls
  | ρ, _, _ => ρ
/-- .. the slots written out -/
def putF (ρ0 : En) : En → List Nat → List Lc → (En → Prop) → Prop
  | ρ, i :: is, l :: ls, k => match tagAt ρ0 i with
    | none => force (ρ.set i (some (l.retag none))) fun ρ' => putF ρ0 ρ' is ls k
    | some j => force (ρ.set i (some (l.retag (some j)))) fun ρ' => putF ρ0 ρ' is ls k
  | ρ, _, _, k => k ρ
theorem putF_eq {ρ0 : En} : ∀ (is : List Nat) (ls : List Lc) (ρ : En) (k : En → Prop), putF ρ0 ρ is ls k = k (putO ρ0 ρ is ls)
  | [], ls, ρ, k => by cases ls <;> rfl
  | i :: is, [], ρ, k => rfl
  | i :: is, l :: ls, ρ, k => by
    unfold putF putO
    cases tagAt ρ0 i with
    | none => dsimp only; rw [force_eq, putF_eq is ls]
    | some j => dsimp only; rw [force_eq, putF_eq is ls]
def fCall (S : FSpec) (t : TAd) : TF := fun ρ Q => t ρ fun as ρ1 => match argsAt ρ1 as 0 with
  | some (args, is) => nodupB is = true ∧ S.sp args fun r outs => putF ρ1 ρ1 is outs fun ρ2 => Q r ρ2
  | none => False
theorem putO_length {ρ0 : En} {is : List Nat} {ls : List Lc} : (putO ρ0 ρ is ls).length = ρ.length := by
  induction is generalizing ρ ls with
  | nil => cases ls <;> rfl
  | cons i is ih =>
    cases ls with
    | nil => rfl
    | cons l ls => show (putO ρ0 (ρ.set i _) is ls).length = _; rw [ih, List.length_set]
theorem putO_get {ρ0 : En} {is : List Nat} {ls : List Lc} {j : Nat} {l : Lc} (hn : is.Nodup) (hl : ls.length = is.length) (h : (putO ρ0 ρ is ls)[j]? = some (some l)) :
    (j ∉ is ∧ ρ[j]? = some (some l)) ∨ ∃ (k : Nat) (m : Lc), is[k]? = some j ∧ ls[k]? = some m ∧ l = m.retag (tagAt ρ0 j) := by
  induction is generalizing ρ ls with
  | nil => cases ls <;> exact .inl ⟨by simp, h⟩
  | cons i is ih =>
    cases ls with
    | nil => simp at hl
    | cons m ls =>
      have h : (putO ρ0 (ρ.set i (some (m.retag (tagAt ρ0 i)))) is ls)[j]? = some (some l) := h
      rw [List.nodup_cons] at hn
      rcases ih hn.2 (by simpa using hl) h with ⟨h1, h2⟩ | ⟨k, m', h1, h2, h3⟩
      · rcases set_get h2 with ⟨rfl, _, z⟩ | ⟨hne, h2⟩
        · cases z; exact .inr ⟨0, m, rfl, rfl, rfl⟩
        · exact .inl ⟨by simp only [List.mem_cons, not_or]; exact ⟨hne, h1⟩, h2⟩
      · exact .inr ⟨k + 1, m', by simpa using h1, by simpa using h2, h3⟩
theorem argsAt_ok [Pn] (R : Rel K G ρ F σ H) : ∀ {as : List AV} {vs : List V} {k : Nat} {args : List Lc} {is : List Nat}, AvA K F σ as vs → argsAt ρ as k = some (args, is) → ∀ pre : List Addr, pre.length = k →
    ∃ post : List Addr, post.length = is.length ∧ (∀ (j i : Nat), is[j]? = some i → ∃ a l, post[j]? = some a ∧ σ[i]? = some (some (.ref a)) ∧ ρ[i]? = some (some l) ∧ l.own = true) ∧
      ArgsOk K F H (pre ++ post) args vs ∧ tags args = List.range' k is.length
  | _, _, k, args, is, .nil, e, pre, hp => by
    have e : some (([] : List Lc), ([] : List Nat)) = some (args, is) := e
    cases e
    exact ⟨[], rfl, fun j i z => by simp at z, .nil, rfl⟩
  | .v x :: r, v :: vs, k, args, is, .cons a t, e, pre, hp => by
    have e : (argsAt ρ r k).map (fun p => (Lc.d x :: p.1, p.2)) = some (args, is) := e
    cases q : argsAt ρ r k with
    | none => rw [q] at e; cases e
    | some p =>
      obtain ⟨as', is'⟩ := p
      rw [q] at e; cases e
      obtain ⟨post, h1, h2, h3, h4⟩ := argsAt_ok R t q pre hp
      exact ⟨post, h1, h2, .cons a h3, h4⟩
  | .f _ _ _ :: r, v :: vs, k, args, is, .cons a t, e, pre, hp => by
    have e : (none : Option (List Lc × List Nat)) = some (args, is) := e
    cases e
  | .s i :: r, v :: vs, k, args, is, .cons a t, e, pre, hp => by
    have a : σ[i]? = some (some v) := a
    unfold argsAt at e
    split at e
    · rename_i x er
      cases q : argsAt ρ r k with
      | none => rw [q] at e; cases e
      | some p =>
        obtain ⟨as', is'⟩ := p
        rw [q] at e; cases e
        obtain ⟨post, h1, h2, h3, h4⟩ := argsAt_ok R t q pre hp
        obtain ⟨w, ew, d⟩ := R.sl i _ er
        rw [a] at ew
        have : v = w := by simpa using ew
        subst this
        exact ⟨post, h1, h2, .cons d h3, h4⟩
    · rename_i u er
      cases q : argsAt ρ r k with
      | none => rw [q] at e; cases e
      | some p =>
        obtain ⟨as', is'⟩ := p
        rw [q] at e; cases e
        obtain ⟨post, h1, h2, h3, h4⟩ := argsAt_ok R t q pre hp
        obtain ⟨w, ew, d⟩ := R.sl i _ er
        rw [a] at ew
        have : v = w := by simpa using ew
        subst this
        exact ⟨post, h1, h2, .cons d h3, h4⟩
    · rename_i l n1 n2 er
      have ho : l.own = true := by
        cases l with
        | d x => exact absurd rfl (n1 x)
        | sc u => exact absurd rfl (n2 u)
        | _ => rfl
      obtain ⟨b, es, at_⟩ := R.at_ er ho
      cases q : argsAt ρ r (k + 1) with
      | none => rw [q] at e; cases e
      | some p =>
        obtain ⟨as', is'⟩ := p
        rw [q] at e; cases e
        obtain ⟨post, h1, h2, h3, h4⟩ := argsAt_ok R t q (pre ++ [b]) (by rw [List.length_append, hp]; rfl)
        rw [a] at es
        have ev : v = .ref b := by simpa using es
        have z : ∃ a' k', v = .ref a' ∧ (l.retag (some k)).tag = some k' ∧ (pre ++ b :: post)[k']? = some a' ∧ F a' = none ∧ (∃ o, H a' = some o ∧ HoOk K F (l.retag (some k)) o) ∧ ∀ c xs, (c, xs) ∈ (l.retag (some k)).fp → F c = none ∧ ∃ vs, H c = some (.lst vs) ∧ DfA K F vs xs := by
          obtain ⟨o, eo, ok⟩ := at_.ob
          refine ⟨b, k, ev, Lc.retag_tag _ _ ho, by rw [← hp]; simp, at_.nf, ⟨o, eo, ok.retag _⟩, fun c xs hc => ?_⟩
          rw [Lc.retag_fp] at hc
          have := (R.ns _ _ _ _ er hc).1
          exact ⟨this.nf, this.ob⟩
        refine ⟨b :: post, by rw [List.length_cons, List.length_cons, h1], fun j i' e' => ?_, .cons ?_ (by rw [List.append_assoc] at h3; exact h3), ?_⟩
        · cases j with
          | zero => simp at e'; subst e'; exact ⟨b, l, rfl, by rw [a, ev], er, ho⟩
          | succ j => obtain ⟨a', l', q1, q2⟩ := h2 j i' (by simpa using e'); exact ⟨a', l', by simpa using q1, q2⟩
        · cases l <;> first | (simp [Lc.own] at ho; done) | exact z
        · show List.filterMap Lc.tag (l.retag (some k) :: as') = _
          rw [List.filterMap_cons, Lc.retag_tag _ _ ho]
          show k :: tags as' = _
          rw [h4]; rfl
    · cases e
theorem nodup_post [Pn] (R : Rel K G ρ F σ H) {is : List Nat} {post : List Addr} (hl : post.length = is.length) (h : ∀ (j i : Nat), is[j]? = some i → ∃ a l, post[j]? = some a ∧ σ[i]? = some (some (.ref a)) ∧ ρ[i]? = some (some l) ∧ l.own = true) (hn : is.Nodup) : post.Nodup := by
  rw [List.nodup_iff_pairwise_ne, List.pairwise_iff_getElem]
  intro i j hi hj hij e
  have hi' : i < is.length := by omega
  have hj' : j < is.length := by omega
  obtain ⟨a, l, q1, q2, q3, q4⟩ := h i is[i] (List.getElem?_eq_getElem hi')
  obtain ⟨b, m, p1, p2, p3, p4⟩ := h j is[j] (List.getElem?_eq_getElem hj')
  rw [List.getElem?_eq_getElem hi] at q1
  rw [List.getElem?_eq_getElem hj] at p1
  have e1 : a = b := by
    have q1 : post[i] = a := by simpa using q1
    have p1 : post[j] = b := by simpa using p1
    rw [← q1, ← p1, e]
  subst e1
  have := R.ds _ _ l m _ q3 p3 q4 p4 q2 p2
  rw [List.nodup_iff_pairwise_ne, List.pairwise_iff_getElem] at hn
  exact hn i j hi' hj' hij this
theorem tags_inj : ∀ {args : List Lc} {i j : Nat} {l m : Lc} {k : Nat}, (tags args).Nodup → args[i]? = some l → args[j]? = some m → l.tag = some k → m.tag = some k → i = j
  | [], i, j, l, m, k, _, e1, _, _, _ => by simp at e1
  | a :: r, i, j, l, m, k, hn, e1, e2, t1, t2 => by
    have mem : ∀ {i : Nat} {l : Lc}, r[i]? = some l → l.tag = some k → k ∈ tags r := fun e t => List.mem_filterMap.mpr ⟨_, List.mem_of_getElem? e, t⟩
    unfold tags at hn
    rw [List.filterMap_cons] at hn
    cases i with
    | zero =>
      simp at e1; subst e1
      rw [t1] at hn
      cases j with
      | zero => rfl
      | succ j => exact absurd (mem (by simpa using e2) t2) (List.nodup_cons.mp hn).1
    | succ i =>
      cases j with
      | zero =>
        simp at e2; subst e2
        rw [t2] at hn
        exact absurd (mem (by simpa using e1) t1) (List.nodup_cons.mp hn).1
      | succ j =>
        have hn' : (tags r).Nodup := by
          cases q : a.tag with
          | none => rw [q] at hn; exact hn
          | some k' => rw [q] at hn; exact (List.nodup_cons.mp hn).2
        exact congrArg (· + 1) (tags_inj hn' (by simpa using e1) (by simpa using e2) t1 t2)
theorem ArgOk.more {ios rest : List Addr} {l : Lc} (h : ArgOk K F H ios l v) : ArgOk K F H (ios ++ rest) l v := by
  cases l <;> first | exact h | (obtain ⟨a, k, e1, e2, e3, e4⟩ := h; exact ⟨a, k, e1, e2, by rw [List.getElem?_append_left (List.getElem?_eq_some_iff.mp e3).1]; exact e3, e4⟩)
theorem ArgsOk.more {ios rest : List Addr} : ∀ {ls : List Lc} {vs : List V}, ArgsOk K F H ios ls vs → ArgsOk K F H (ios ++ rest) ls vs
  | _, _, .nil => .nil
  | _, _, .cons a t => .cons a.more t.more
theorem dedup (l : List Nat) : ∃ r : List Nat, r.Nodup ∧ ∀ x, x ∈ r ↔ x ∈ l := by
  induction l with
  | nil => exact ⟨[], List.nodup_nil, fun _ => Iff.rfl⟩
  | cons a l ih =>
    obtain ⟨r, h1, h2⟩ := ih
    by_cases z : a ∈ r
    · exact ⟨r, h1, fun x => by rw [h2, List.mem_cons]; exact ⟨.inr, fun w => w.elim (fun e => by rw [e]; exact (h2 a).mp z) id⟩⟩
    · exact ⟨a :: r, List.nodup_cons.mpr ⟨z, h1⟩, fun x => by rw [List.mem_cons, List.mem_cons, h2]⟩
/-- the own things in the slots is, as they are handed in -/
def slotsAt (ρ : En) : List Nat → Nat → List Lc
  | [], _ => []
  | i :: is, k => match ρ[i]? with
    | some (some l) => l.retag (some k) :: slotsAt ρ is (k + 1)
    | _ => slotsAt ρ is (k + 1)
theorem argsAt_nio [Pn] (R : Rel K G ρ F σ H) : ∀ {as : List AV} {k : Nat} {args : List Lc} {is : List Nat}, argsAt ρ as k = some (args, is) → ∀ {n : Nat} {l : Lc}, args[n]? = some l → l.fp ≠ [] → ∃ (j i : Nat) (l0 : Lc), is[j]? = some i ∧ ρ[i]? = some (some l0) ∧ l0.own = true ∧ l = l0.retag (some (k + j)) ∧ l.tag = some (k + j)
  | [], k, args, is, e, n, l, en, _ => by
    have e : some (([] : List Lc), ([] : List Nat)) = some (args, is) := e
    cases e; simp at en
  | .v x :: r, k, args, is, e, n, l, en, hl => by
    have e : (argsAt ρ r k).map (fun p => (Lc.d x :: p.1, p.2)) = some (args, is) := e
    cases q : argsAt ρ r k with
    | none => rw [q] at e; cases e
    | some p =>
      obtain ⟨as', is'⟩ := p
      rw [q] at e; cases e
      cases n with
      | zero => simp at en; subst en; exact absurd rfl hl
      | succ n => exact argsAt_nio R q (by simpa using en) hl
  | .f _ _ _ :: r, k, args, is, e, n, l, en, hl => by
    have e : (none : Option (List Lc × List Nat)) = some (args, is) := e
    cases e
  | .s i :: r, k, args, is, e, n, l, en, hl => by
    unfold argsAt at e
    split at e
    · cases q : argsAt ρ r k with
      | none => rw [q] at e; cases e
      | some p =>
        obtain ⟨as', is'⟩ := p
        rw [q] at e; cases e
        cases n with
        | zero => simp at en; subst en; exact absurd rfl hl
        | succ n => exact argsAt_nio R q (by simpa using en) hl
    · cases q : argsAt ρ r k with
      | none => rw [q] at e; cases e
      | some p =>
        obtain ⟨as', is'⟩ := p
        rw [q] at e; cases e
        cases n with
        | zero => simp at en; subst en; exact absurd rfl hl
        | succ n => exact argsAt_nio R q (by simpa using en) hl
    · rename_i l1 n1 n2 er
      have ho : l1.own = true := by
        cases l1 with
        | d x => exact absurd rfl (n1 x)
        | sc u => exact absurd rfl (n2 u)
        | _ => rfl
      cases q : argsAt ρ r (k + 1) with
      | none => rw [q] at e; cases e
      | some p =>
        obtain ⟨as', is'⟩ := p
        rw [q] at e; cases e
        cases n with
        | zero => simp at en; subst en; exact ⟨0, i, l1, rfl, er, ho, rfl, Lc.retag_tag _ _ ho⟩
        | succ n =>
          obtain ⟨j, i', l0, g1, g2, g3, g4, g5⟩ := argsAt_nio R q (by simpa using en) hl
          exact ⟨j + 1, i', l0, by simpa using g1, g2, g3, by rw [g4]; congr 2; omega, by rw [g5]; congr 1; omega⟩
    · cases e
/-- where the own lists in own things that are handed in lie -/
theorem argsAt_src [Pn] (R : Rel K G ρ F σ H) {as : List AV} {args : List Lc} {is : List Nat} (e : argsAt ρ as 0 = some (args, is)) {k : Nat} {b : Addr} (h : (k, b) ∈ nioOf args) : ∃ (i : Nat) (l0 : Lc) (xs : List PD), is[k]? = some i ∧ ρ[i]? = some (some l0) ∧ l0.own = true ∧ (b, xs) ∈ l0.fp := by
  obtain ⟨n, l, xs, e1, e2, e3⟩ := nioOf_mem h
  obtain ⟨j, i, l0, g1, g2, g3, g4, g5⟩ := argsAt_nio R e e1 (by intro z; rw [z] at e3; cases e3)
  rw [e2] at g5
  have : k = 0 + j := Option.some.inj g5
  have : k = j := by omega
  subst this
  exact ⟨i, l0, xs, g1, g2, g3, by rw [g4, Lc.retag_fp] at e3; exact e3⟩
theorem Rel.call [Pn] (R : Rel K G ρ F σ H) {is : List Nat} {post ios : List Addr} {nio : List (Nat × Addr)} {r : Lc} {outs : List Lc} (hl : post.length = is.length) (hn : is.Nodup)
    (h : ∀ (j i : Nat), is[j]? = some i → ∃ a l, post[j]? = some a ∧ σ[i]? = some (some (.ref a)) ∧ ρ[i]? = some (some l) ∧ l.own = true)
    (hpre : ∃ rest, ios = post ++ rest ∧ ∀ b ∈ rest, ∃ k, (k, b) ∈ nio) (hnio : ∀ k b, (k, b) ∈ nio → ∃ (i : Nat) (l0 : Lc) (xs : List PD), is[k]? = some i ∧ ρ[i]? = some (some l0) ∧ l0.own = true ∧ (b, xs) ∈ l0.fp) (P0 : Post K F H ios is.length nio r outs v F' H') :
    Rel K G (putO ρ ρ is outs) F' σ H' ∧ RsOk K G F' H' (putO ρ ρ is outs) σ r v := by
  obtain ⟨rest, eios, hrest⟩ := hpre
  have P := P0
  have hlo : outs.length = is.length := P.ol
  -- an own list within, behind the call
  have inr : ∀ {b : Addr}, b ∈ rest → ∃ (i k : Nat) (l0 : Lc) (xs : List PD), is[k]? = some i ∧ ρ[i]? = some (some l0) ∧ l0.own = true ∧ (b, xs) ∈ l0.fp := fun {b} hb => by
    obtain ⟨k, hk⟩ := hrest b hb
    obtain ⟨i, l0, xs, z⟩ := hnio k b hk
    exact ⟨i, k, l0, xs, z⟩
  -- a slot behind the call
  have slot : ∀ {j : Nat} {l : Lc}, (putO ρ ρ is outs)[j]? = some (some l) → (j ∉ is ∧ ρ[j]? = some (some l)) ∨
      ∃ (k : Nat) (m l0 : Lc) (a : Addr) (o : HO), is[k]? = some j ∧ l = m.retag l0.tag ∧ ρ[j]? = some (some l0) ∧ l0.own = true ∧ σ[j]? = some (some (.ref a)) ∧ post[k]? = some a ∧ F' a = none ∧ H' a = some o ∧ HoOk K F' m o ∧ outs[k]? = some m := fun {j l} e => by
    rcases putO_get hn hlo e with q | ⟨k, m, q1, q2, q3⟩
    · exact .inl q
    · obtain ⟨a, l0, p1, p2, p3, p4⟩ := h k j q1
      obtain ⟨a', o, z1, z2, z3, z4, z5⟩ := P.ou k m q2
      rw [eios, List.getElem?_append_left (by have := (List.getElem?_eq_some_iff.mp p1).1; exact this), p1] at z1
      have : a = a' := by simpa using z1
      subst this
      have et : tagAt ρ j = l0.tag := by unfold tagAt; rw [p3]
      rw [et] at q3
      exact .inr ⟨k, m, l0, a, o, q1, q3, p3, p4, p2, p1, z2, z3, z4, q2⟩
  have old : ∀ {j : Nat} {l : Lc}, (putO ρ ρ is outs)[j]? = some (some l) → l.own = true → ∃ l0, ρ[j]? = some (some l0) ∧ l0.own = true := fun {j l} e ho => by
    rcases slot e with ⟨_, q⟩ | ⟨k, m, l0, a, o, _, _, q, q2, _⟩
    · exact ⟨l, q, ho⟩
    · exact ⟨l0, q, q2⟩
  have keep : ∀ {j : Nat} {l : Lc} {b : Addr}, j ∉ is → ρ[j]? = some (some l) → l.own = true → σ[j]? = some (some (.ref b)) → b ∉ post := fun {j l b} hj e ho es hb => by
    obtain ⟨k, hk, ek⟩ := List.getElem_of_mem hb
    obtain ⟨a, l', p1, p2, p3, p4⟩ := h k is[k] (List.getElem?_eq_getElem (by omega))
    rw [List.getElem?_eq_getElem hk, ek] at p1
    have : b = a := by simpa using p1
    subst this
    have := R.ds j is[k] l l' _ e p3 ho p4 es p2
    exact hj (by rw [this]; exact List.getElem_mem _)
  have keep2 : ∀ {j : Nat} {l : Lc} {b : Addr}, j ∉ is → ρ[j]? = some (some l) → l.own = true → σ[j]? = some (some (.ref b)) → b ∉ ios := fun {j l b} hj e ho es hb => by
    rw [eios] at hb
    rcases List.mem_append.mp hb with hb | hb
    · exact keep hj e ho es hb
    · obtain ⟨i, k, l0, xs, _, g2, _, g4⟩ := inr hb
      exact ((R.ns i l0 b xs g2 g4).2 j l e).1 ho es
  have ioA : ∀ {a : Addr}, a ∈ post → ∃ (l : Lc) (j : Nat), ρ[j]? = some (some l) ∧ l.own = true ∧ σ[j]? = some (some (.ref a)) ∧ At K G F H l a := fun {a} ha => by
    obtain ⟨k, hk, ek⟩ := List.getElem_of_mem ha
    obtain ⟨b, l', p1, p2, p3, p4⟩ := h k is[k] (List.getElem?_eq_getElem (by omega))
    rw [List.getElem?_eq_getElem hk, ek] at p1
    have : a = b := by simpa using p1
    subst this
    obtain ⟨c, es, z⟩ := R.at_ p3 p4
    rw [p2] at es
    have : a = c := by simpa using es
    subst this
    exact ⟨l', is[k], p3, p4, p2, z⟩
  have R' : Rel K G (putO ρ ρ is outs) F' σ H' := by
    refine ⟨P.fh, R.ff.trans P.ff, fun b o e hb => ?_, fun b h1 h2 => ?_, fun a ha => ⟨?_, (R.ih a ha).2⟩, by rw [putO_length]; exact R.len, fun j l e => ?_, fun i j l m w e1 e2 h1 h2 e3 e4 => ?_, R.ok, fun i l b xs e hb => ?_⟩
    · refine P.fr b o (R.fr b o e hb) fun hm => ?_
      rw [eios] at hm
      rcases List.mem_append.mp hm with hm | hm
      · obtain ⟨l, j, _, _, _, z⟩ := ioA hm
        have ow := z.ow
        cases q : l.tag with
        | none => rw [q] at ow; have ow : G.H0 b = none := ow; rw [e] at ow; cases ow
        | some k => rw [q] at ow; exact hb (List.mem_of_getElem? ow)
      · obtain ⟨i, k, l0, xs, _, g2, _, g4⟩ := inr hm
        rcases (R.ns i l0 b xs g2 g4).1.ow with w | w
        · rw [e] at w; cases w
        · obtain ⟨_, _, _, w⟩ := w; exact hb w
    · cases e : F b with
      | none =>
        rcases P.nw b h1 e with z | z
        · exact .inl (R.h0 z)
        · exact .inr z
      | some u =>
        rcases R.nw b (by rw [e]; simp) h2 with z | ⟨us, z⟩
        · exact .inl z
        · exact .inr ⟨us, P.ff _ _ z⟩
    · by_cases hm : a ∈ ios
      · exact P.hx a hm
      · cases e : H a with
        | none => exact absurd e (R.ih a ha).1
        | some u => rw [P.fr a u e hm]; simp
    · rcases slot e with ⟨hj, q⟩ | ⟨k, m, l0, a, o, q1, rfl, q3, q4, q5, q6, q7, q8, q9, _⟩
      · have z := R.sl j l q
        cases hl0 : l.own with
        | true =>
          rw [own_slot hl0] at z ⊢
          obtain ⟨b, eb, z⟩ := z
          obtain ⟨nf, ow, ob, eo, ok⟩ := z
          refine ⟨b, eb, ?_, ow, ob, P.fr b ob eo (keep2 hj q hl0 eb), ok.mono P.ff⟩
          cases w : F' b with
          | none => rfl
          | some u =>
            rcases P.nw b (by rw [w]; simp) nf with this | ⟨us, this⟩
            · rw [eo] at this; cases this
            · have this := P.fh _ _ this
              rw [P.fr b ob eo (keep2 hj q hl0 eb)] at this
              cases this
              cases l <;> exact False.elim ok
        | false =>
          rcases not_own hl0 with ⟨x, rfl⟩ | ⟨w, rfl⟩
          · obtain ⟨w, ew, d⟩ := z; exact ⟨w, ew, d.mono P.ff⟩
          · obtain ⟨w, ew, d⟩ := z; exact ⟨w, ew, d.mono P.ff⟩
      · rw [own_slot (by rw [Lc.retag_own]; exact q9.own)]
        obtain ⟨b, eb, z⟩ := R.at_ q3 q4
        rw [q5] at eb
        have : a = b := by simpa using eb
        subst this
        exact ⟨a, q5, q7, by rw [Lc.retag_tag _ _ q9.own]; exact z.ow, o, q8, q9.retag _⟩
    · obtain ⟨l0, p1, p2⟩ := old e1 h1
      obtain ⟨m0, p3, p4⟩ := old e2 h2
      exact R.ds i j l0 m0 w p1 p3 p2 p4 e3 e4
    · have own1 : ∀ {j : Nat} {m : Lc}, (putO ρ ρ is outs)[j]? = some (some m) → m.own = true → ∃ l0, ρ[j]? = some (some l0) ∧ l0.own = true := old
      rcases slot e with ⟨hi, q⟩ | ⟨k, m, l0, a, o, q1, rfl, q3, q4, q5, q6, q7, q8, q9, q10⟩
      · obtain ⟨⟨z1, z2, vs, z3, z4⟩, w⟩ := R.ns i l b xs q hb
        have nb : b ∉ ios := fun hm => by
          rw [eios] at hm
          rcases List.mem_append.mp hm with hm | hm
          · obtain ⟨l2, j2, g1, g2, g3, _⟩ := ioA hm
            exact (w j2 l2 g1).1 g2 g3
          · obtain ⟨i2, k2, l2, xs2, g1, g2, g3, g4⟩ := inr hm
            have := (w i2 l2 g2).2 xs2 g4
            exact hi (by rw [← this]; exact List.mem_of_getElem? g1)
        have hb' := P.fr b _ z3 nb
        refine ⟨⟨?_, z2, vs, hb', z4.mono P.ff⟩, fun j m2 e2 => ?_⟩
        · cases w2 : F' b with
          | none => rfl
          | some u =>
            rcases P.nw b (by rw [w2]; simp) z1 with this | ⟨us, this⟩
            · rw [z3] at this; cases this
            · have this := P.fh _ _ this
              rw [hb'] at this; cases this
        · rcases slot e2 with ⟨_, q2⟩ | ⟨k2, m2, l2, a2, o2, p1, rfl, p3, p4, p5, p6, p7, p8, p9, p10⟩
          · exact w j m2 q2
          · refine ⟨fun _ => (w j l2 p3).1 p4, fun ys hy => ?_⟩
            rw [Lc.retag_fp] at hy
            rcases (P.on k2 m2 b ys p10 hy).1.2.1 with g | g
            · rw [z3] at g; cases g
            · obtain ⟨i3, l3, xs3, g1, g2, _, g4⟩ := hnio _ _ g
              rw [p1] at g1
              have : j = i3 := by simpa using g1
              subst this
              exact (w j l3 g2).2 xs3 g4
      · rw [Lc.retag_fp] at hb
        obtain ⟨⟨f1, f2, f3⟩, f5, f6⟩ := P.on k m b xs q10 hb
        have src : H b = none ∨ ∃ xs3, (b, xs3) ∈ l0.fp := by
          rcases f2 with f2 | f2
          · exact .inl f2
          · obtain ⟨i3, l3, xs3, g1, g2, _, g4⟩ := hnio _ _ f2
            rw [q1] at g1
            have : i = i3 := by simpa using g1
            subst this
            rw [q3] at g2
            have : l0 = l3 := by simpa using g2
            subst this
            exact .inr ⟨xs3, g4⟩
        refine ⟨⟨f1, ?_, f3⟩, fun j m2 e2 => ?_⟩
        · rw [Lc.retag_tag _ _ q9.own]
          rcases src with g | ⟨xs3, g⟩
          · exact .inl (R.h0 g)
          · exact (R.ns i l0 b xs3 q3 g).1.ow
        · rcases slot e2 with ⟨_, q2⟩ | ⟨k2, m2, l2, a2, o2, p1, rfl, p3, p4, p5, p6, p7, p8, p9, p10⟩
          · rcases src with g | ⟨xs3, g⟩
            · exact ⟨R.noS_free g j m2 q2, fun ys hy => absurd hy (R.noN_free g j m2 ys q2)⟩
            · exact (R.ns i l0 b xs3 q3 g).2 j m2 q2
          · refine ⟨fun _ z => ?_, fun ys hy => ?_⟩
            · rw [p5] at z
              have : a2 = b := by simpa using z
              have hk2 := (List.getElem?_eq_some_iff.mp p6).1
              refine f5 k2 (by omega) ?_
              rw [eios, List.getElem?_append_left hk2, p6, this]
            · rw [Lc.retag_fp] at hy
              have := f6 k2 m2 ys p10 hy
              subst this
              rw [q1] at p1
              simpa using p1.symm
  refine ⟨R', ?_⟩
  have own : r.own = true → RsOk K G F' H' (putO ρ ρ is outs) σ r v := fun ho => by
    have z : ∃ a o, v = .ref a ∧ H a = none ∧ F' a = none ∧ H' a = some o ∧ HoOk K F' r o ∧ r.tag = none := by
      have := P.rs
      cases r <;> first | (simp [Lc.own] at ho; done) | exact this
    obtain ⟨a, o, e1, e2, e3, e4, e5, e6⟩ := z
    rw [RsOk.ref_own ho]
    have nos : ∀ {b : Addr}, H b = none → NoS (putO ρ ρ is outs) σ b := fun {b} g j m e hm => by
      obtain ⟨l0, p1, p2⟩ := old e hm
      exact R.noS_free g j l0 p1 p2
    have non : ∀ {b : Addr}, H b = none → (∀ (k : Nat) (m : Lc) (ys : List PD), outs[k]? = some m → (b, ys) ∉ m.fp) → NoN (putO ρ ρ is outs) b := fun {b} g g2 j m ys e hy => by
      rcases slot e with ⟨_, q⟩ | ⟨k, m, l0, a, o, q1, rfl, q3, q4, q5, q6, q7, q8, q9, q10⟩
      · exact R.noN_free g j m ys q hy
      · rw [Lc.retag_fp] at hy
        exact g2 k m ys q10 hy
    refine ⟨a, e1, e6, ⟨e3, by rw [e6]; exact R.h0 e2, o, e4, e5⟩, ⟨nos e2, non e2 (P.ra a ho e1), fun b xs hb => ?_⟩⟩
    obtain ⟨⟨f1, f2, f3⟩, f4, f5⟩ := P.rn b xs hb
    exact ⟨⟨f1, .inl (R.h0 f2), f3⟩, by rw [← e1]; exact f4, nos f2, non f2 f5⟩
  cases r with
  | d x => exact P.rs
  | sc u => exact P.rs
  | _ => exact own rfl
variable {k : Nat} {f : Addr} {fd : FuncData} {ps : List Str} {n : Str} {p : Pos} {tt : TAd} {S : FSpec}
/-- what is handed in, and what stands behind the call -/
theorem callIo [Pn] {ρ1 : En} {F1 H1 : Hp} {as : List AV} {vs : List V} {args : List Lc} {is : List Nat} (R1 : Rel K G ρ1 F1 σ H1) (av : AvA K F1 σ as vs) (ea : argsAt ρ1 as 0 = some (args, is)) (hn : is.Nodup) :
    ∃ ios, ArgsOk K F1 H1 ios args vs ∧ IoOk H1 ios is.length args ∧ ∀ {r : Lc} {outs : List Lc} {v : V} {F' H' : Hp}, Post K F1 H1 ios is.length (nioOf args) r outs v F' H' → Rel K G (putO ρ1 ρ1 is outs) F' σ H' ∧ RsOk K G F' H' (putO ρ1 ρ1 is outs) σ r v := by
  obtain ⟨post, p1, p2, p3, p4⟩ := argsAt_ok R1 av ea [] rfl
  obtain ⟨rest, rn, rm⟩ := dedup ((nioOf args).map (·.2))
  have rk : ∀ b, b ∈ rest → ∃ k, (k, b) ∈ nioOf args := fun b hb => by
    obtain ⟨q, hq, e⟩ := List.mem_map.mp ((rm b).mp hb)
    exact ⟨q.1, by rw [← e]; exact hq⟩
  have src := fun (k : Nat) (b : Addr) (z : (k, b) ∈ nioOf args) => argsAt_src R1 ea z
  have pa : ∀ a ∈ post, ∃ (j : Nat) (l : Lc), ρ1[j]? = some (some l) ∧ l.own = true ∧ σ[j]? = some (some (.ref a)) := fun a ha => by
    obtain ⟨j, hj, ej⟩ := List.getElem_of_mem ha
    obtain ⟨b, l, z1, z2, z3, z4⟩ := p2 j is[j] (List.getElem?_eq_getElem (by omega))
    rw [List.getElem?_eq_getElem hj, ej] at z1
    have : a = b := by simpa using z1
    subst this
    exact ⟨_, l, z3, z4, z2⟩
  have io : IoOk H1 (post ++ rest) is.length args := by
    refine ⟨List.nodup_append.mpr ⟨nodup_post R1 p1 p2 hn, rn, fun a ha b hb e => ?_⟩, fun a ha => ?_, by rw [p4, List.range_eq_range'], by rw [List.length_append]; omega, fun k b hb => ?_, fun i j l m b xs ys e1 e2 h1 h2 => ?_⟩
    · subst e
      obtain ⟨j, l, g1, g2, g3⟩ := pa a ha
      obtain ⟨k, hk⟩ := rk a hb
      obtain ⟨i, l0, xs, _, q2, _, q4⟩ := src k a hk
      exact ((R1.ns i l0 a xs q2 q4).2 j l g1).1 g2 g3
    · rcases List.mem_append.mp ha with ha | ha
      · obtain ⟨j, l, g1, g2, g3⟩ := pa a ha
        obtain ⟨b, eb, _, _, ob, eo, _⟩ := R1.at_ g1 g2
        rw [g3] at eb
        have : a = b := by simpa using eb
        subst this
        rw [eo]; simp
      · obtain ⟨k, hk⟩ := rk a ha
        obtain ⟨i, l0, xs, _, q2, _, q4⟩ := src k a hk
        obtain ⟨vs, e, _⟩ := (R1.ns i l0 a xs q2 q4).1.ob
        rw [e]; simp
    · rw [← p1, List.drop_left]
      exact (rm b).mpr (List.mem_map.mpr ⟨(k, b), hb, rfl⟩)
    · obtain ⟨j1, i1, l1, q1, q2, q3, q4, q5⟩ := argsAt_nio R1 ea e1 (by intro z; rw [z] at h1; cases h1)
      obtain ⟨j2, i2, l2, g1, g2, g3, g4, g5⟩ := argsAt_nio R1 ea e2 (by intro z; rw [z] at h2; cases h2)
      have h1' : (b, xs) ∈ l1.fp := by rw [q4, Lc.retag_fp] at h1; exact h1
      have h2' : (b, ys) ∈ l2.fp := by rw [g4, Lc.retag_fp] at h2; exact h2
      have e3 : i2 = i1 := ((R1.ns i1 l1 b xs q2 h1').2 i2 l2 g2).2 ys h2'
      subst e3
      obtain ⟨hj1, ej1⟩ := List.getElem?_eq_some_iff.mp q1
      obtain ⟨hj2, ej2⟩ := List.getElem?_eq_some_iff.mp g1
      have e4 : j1 = j2 := (List.getElem_inj hn).mp (ej1.trans ej2.symm)
      subst e4
      exact tags_inj (by rw [p4]; exact List.nodup_range') e1 e2 q5 g5
  exact ⟨post ++ rest, p3.more, io, fun P => R1.call p1 hn p2 ⟨rest, rfl, rk⟩ src P⟩
theorem tCall_of [Pn] {m : Nat} {Q : VK} (h : liftF K (fCall S tt) σ H Q) : tCall (liftC K S) [] E0 (liftA K m tt) σ H Q := by
  obtain ⟨G, ρ, F, Q', R, q, c⟩ := h
  refine ⟨G, ρ, F, _, R, q, fun as ρ1 vs H1 F1 h1 hl R1 s1 av => ?_⟩
  split at h1
  · rename_i args is ea
    obtain ⟨hn, h1⟩ := h1
    have hn := nodup_of hn
    obtain ⟨ios, p3, io, back⟩ := callIo R1 av ea hn
    rw [List.append_nil]
    refine ⟨args, F1, ios, is.length, _, R1.fh, p3, io, h1, fun r outs v F' H' q' P => ?_⟩
    obtain ⟨R2, r2⟩ := back P
    have q2 := q'
    change putF _ _ _ _ _ at q2
    rw [putF_eq] at q2
    exact c _ _ _ _ _ q2 R2 (s1.trans P.ff) r2
  · exact False.elim h1
/-! ### defs -/
def outsAt (ρ : En) : List Nat → Nat → Option (List Lc)
  | [], _ => some []
  | i :: is, k => match ρ[i]? with
    | some (some l) => if (l.own && l.tag == some k) = true then (outsAt ρ is (k + 1)).map (l :: ·) else none
    | _ => none
def ioSlots : List Lc → Nat → List Nat
  | [], _ => []
  | l :: r, i => if l.tag.isSome = true then i :: ioSlots r (i + 1) else ioSlots r (i + 1)
def retOk (args : List Lc) (Q : Lc → List Lc → Prop) (r : Lc) (ρ : En) : Prop := match outsAt ρ (ioSlots args 0) 0 with
  | some outs => (match r with
    | .d x => Q (.d x) outs
    | l => Q l outs ∨ (l.fz = true ∧ Q (.d l.pd) outs))
  | none => False
def endsOf (args : List Lc) (Q : Lc → List Lc → Prop) : DE := { nx := retOk args Q (.d .none), rt := retOk args Q }
def rho0 (N : List Str) (args : List Lc) : En := args.map some ++ List.replicate (N.length - args.length) none
theorem outsAt_ok [Pn] (R : Rel K G ρ F σ H) : ∀ {is : List Nat} {k : Nat} {outs : List Lc}, outsAt ρ is k = some outs → outs.length = is.length ∧ ∀ (j : Nat) (l : Lc), outs[j]? = some l → ∃ a o, G.io[k + j]? = some a ∧ F a = none ∧ H a = some o ∧ HoOk K F l o ∧ l.tag = some (k + j)
  | [], k, outs, e => by
    have e : some ([] : List Lc) = some outs := e
    cases e
    exact ⟨rfl, fun j l z => by simp at z⟩
  | i :: is, k, outs, e => by
    unfold outsAt at e
    split at e
    · rename_i l er
      split at e
      · rename_i hz
        rw [Bool.and_eq_true] at hz
        have ht : l.tag = some k := by simpa using hz.2
        cases q : outsAt ρ is (k + 1) with
        | none => rw [q] at e; cases e
        | some os =>
          rw [q] at e; cases e
          obtain ⟨h1, h2⟩ := outsAt_ok R q
          refine ⟨by rw [List.length_cons, List.length_cons, h1], fun j m em => ?_⟩
          cases j with
          | zero =>
            simp at em; subst em
            obtain ⟨a, es, nf, ow, o, eo, ok⟩ := R.at_ er hz.1
            rw [ht] at ow
            exact ⟨a, o, ow, nf, eo, ok, ht⟩
          | succ j =>
            obtain ⟨a, o, z⟩ := h2 j m (by simpa using em)
            have ek : k + (j + 1) = k + 1 + j := by omega
            rw [ek]; exact ⟨a, o, z⟩
      · cases e
    · cases e
theorem ioSlots_length : ∀ (args : List Lc) (i : Nat), (ioSlots args i).length = (tags args).length
  | [], _ => rfl
  | l :: r, i => by
    unfold ioSlots tags
    rw [List.filterMap_cons]
    cases q : l.tag with
    | none => simp only [Option.isSome, Bool.false_eq_true, if_false]; exact ioSlots_length r (i + 1)
    | some k => simp only [Option.isSome, if_true]; rw [List.length_cons, List.length_cons]; exact congrArg (· + 1) (ioSlots_length r (i + 1))
theorem ArgsOk.get {ios : List Addr} : ∀ {ls : List Lc} {vs : List V}, ArgsOk K F H ios ls vs → ∀ {i : Nat} {l : Lc}, ls[i]? = some l → ∃ v, vs[i]? = some v ∧ ArgOk K F H ios l v
  | _, _, .nil, i, l, e => by simp at e
  | _, _, .cons a t, i, l, e => by
    cases i with
    | zero => simp at e; subst e; exact ⟨_, rfl, a⟩
    | succ i => obtain ⟨v, h1, h2⟩ := ArgsOk.get t (i := i) (by simpa using e); exact ⟨v, by simpa using h1, h2⟩
theorem argOk_own {ios : List Addr} {l : Lc} (ho : l.own = true) : ArgOk K F H ios l v ↔ ∃ a k, v = .ref a ∧ l.tag = some k ∧ ios[k]? = some a ∧ F a = none ∧ (∃ o, H a = some o ∧ HoOk K F l o) ∧ ∀ b xs, (b, xs) ∈ l.fp → F b = none ∧ ∃ vs, H b = some (.lst vs) ∧ DfA K F vs xs := by
  cases l <;> first | exact Iff.rfl | (simp [Lc.own] at ho)
theorem Rel.start [Pn] {N : List Str} {ios : List Addr} {n : Nat} {args : List Lc} {vs : List V} (ok : Pn.P ⟨H, F, ios, nioOf args⟩) (s : Same F H) (a : ArgsOk K F H ios args vs) (io : IoOk H ios n args) : Rel K ⟨H, F, ios, nioOf args⟩ (rho0 N args) F (L2.start N vs) H := by
  have hn := io.nd
  have hH := io.ex
  have ht := io.tg
  have hl := a.length
  have get : ∀ {i : Nat} {l : Lc}, (rho0 N args)[i]? = some (some l) → args[i]? = some l := fun {i l} e => by
    unfold rho0 at e
    by_cases hi : i < args.length
    · rw [List.getElem?_append_left (by simpa using hi), List.getElem?_map] at e
      cases q : args[i]? with
      | none => rw [q] at e; simp at e
      | some m => rw [q] at e; simpa using e
    · rw [List.getElem?_append_right (by simpa using Nat.le_of_not_lt hi)] at e
      have := List.mem_of_getElem? e
      rw [List.mem_replicate] at this
      cases this.2
  have getv : ∀ {i : Nat} {v : V}, vs[i]? = some v → (L2.start N vs)[i]? = some (some v) := fun {i v} e => by
    unfold L2.start
    have hi := (List.getElem?_eq_some_iff.mp e).1
    rw [List.getElem?_append_left (by simpa using hi), List.getElem?_map, e]; rfl
  refine ⟨s, Same.refl _, fun b o e _ => e, fun b h1 h2 => absurd h2 h1, fun a ha => ⟨hH a ha, hH a ha⟩, ?_, fun i l e => ?_, fun i j l m v e1 e2 h1 h2 e3 e4 => ?_, ok, fun i l b xs e hb => ?_⟩
  · unfold L2.start rho0
    simp only [List.length_append, List.length_map, List.length_replicate]; rw [hl]
  · obtain ⟨v, ev, av⟩ := a.get (get e)
    rw [getv ev]
    cases ho : l.own with
    | true =>
      rw [own_slot ho]
      rw [argOk_own ho] at av
      obtain ⟨b, k, e1, e2, e3, e4, ⟨o, e5, e6⟩, _⟩ := av
      exact ⟨b, by rw [e1], e4, by rw [e2]; exact e3, o, e5, e6⟩
    | false =>
      rcases not_own ho with ⟨x, rfl⟩ | ⟨w, rfl⟩
      · exact ⟨v, rfl, av⟩
      · exact ⟨v, rfl, av⟩
  · obtain ⟨v1, ev1, av1⟩ := a.get (get e1)
    obtain ⟨v2, ev2, av2⟩ := a.get (get e2)
    rw [argOk_own h1] at av1
    rw [argOk_own h2] at av2
    obtain ⟨b, k, a1, a2, a3, _⟩ := av1
    obtain ⟨b', k', c1, c2, c3, _⟩ := av2
    rw [getv ev1] at e3
    rw [getv ev2] at e4
    have f1 : v1 = v := by simpa using e3
    have f2 : v2 = v := by simpa using e4
    have bb : b = b' := by rw [f1, ← f2, c1] at a1; exact (V.ref.inj a1).symm
    subst bb
    obtain ⟨hk, ek⟩ := List.getElem?_eq_some_iff.mp a3
    obtain ⟨hk', ek'⟩ := List.getElem?_eq_some_iff.mp c3
    have kk : k = k' := (List.getElem_inj hn).mp (ek.trans ek'.symm)
    subst kk
    exact tags_inj (by rw [ht]; exact List.nodup_range) (get e1) (get e2) a2 c2
  · have ho : l.own = true := by
      cases q : l.own with
      | true => rfl
      | false => rw [Lc.fp_own q] at hb; cases hb
    obtain ⟨v, ev, av⟩ := a.get (get e)
    rw [argOk_own ho] at av
    obtain ⟨c, k, e1, e2, e3, e4, _, w⟩ := av
    obtain ⟨w1, w2⟩ := w b xs hb
    have hin := nioOf_in (get e) e2 hb
    have hdr := io.nx k b hin
    refine ⟨⟨w1, .inr ⟨k, e2, hin, List.mem_of_mem_drop hdr⟩, w2⟩, fun j m em => ⟨fun hm z => ?_, fun ys hy => (io.dj i j l m b xs ys (get e) (get em) hb hy).symm⟩⟩
    obtain ⟨v2, ev2, av2⟩ := a.get (get em)
    rw [argOk_own hm] at av2
    obtain ⟨c2, k2, f1, f2, f3, _⟩ := av2
    rw [getv ev2, f1] at z
    have : c2 = b := by simpa using z
    refine drop_ne hn hdr ?_ f3 this
    have : k2 ∈ tags args := List.mem_filterMap.mpr ⟨m, List.mem_of_getElem? (get em), f2⟩
    rw [ht] at this
    exact List.mem_range.mp this
theorem nio_ds {xs : List PD} {k : Nat} {b : Addr} (h : (k, b) ∈ nioOf (xs.map Lc.d)) : False := by
  obtain ⟨i, l, ys, e1, _, e3⟩ := nioOf_mem h
  rw [List.getElem?_map] at e1
  obtain ⟨x, _, rfl⟩ := Option.map_eq_some_iff.mp e1
  cases e3
theorem tags_ds (xs : List PD) : tags (xs.map Lc.d) = [] := by
  induction xs with
  | nil => rfl
  | cons x r ih => exact ih
theorem IoOk.ds (xs : List PD) : IoOk H [] 0 (xs.map Lc.d) := ⟨List.nodup_nil, fun a h => (by cases h), tags_ds xs, Nat.le_refl _, fun k b z => (nio_ds z).elim, fun i j l m b zs ys e1 _ h1 _ => by
  rw [List.getElem?_map] at e1
  obtain ⟨x, _, rfl⟩ := Option.map_eq_some_iff.mp e1
  cases h1⟩
theorem Rel.call0 [Pn] (R : Rel K G ρ F σ H) {xs : List PD} {r : Lc} {outs : List Lc} (P : Post K F H [] 0 (nioOf (xs.map Lc.d)) r outs v F' H') : Rel K G (putO ρ ρ [] outs) F' σ H' ∧ RsOk K G F' H' (putO ρ ρ [] outs) σ r v :=
  R.call (is := []) (post := []) rfl List.nodup_nil (fun j i e => by simp at e) ⟨[], rfl, fun b hb => by cases hb⟩ (fun k b z => (nio_ds z).elim) P
theorem outsAt_slot {ρ : En} : ∀ {is : List Nat} {k : Nat} {outs : List Lc}, outsAt ρ is k = some outs → ∀ {j : Nat} {l : Lc}, outs[j]? = some l → ∃ i, is[j]? = some i ∧ ρ[i]? = some (some l) ∧ l.own = true ∧ l.tag = some (k + j)
  | [], k, outs, e, j, l, z => by
    have e : some ([] : List Lc) = some outs := e
    cases e
    simp at z
  | i :: is, k, outs, e, j, l, z => by
    unfold outsAt at e
    split at e
    · rename_i l0 er
      split at e
      · rename_i hz
        rw [Bool.and_eq_true] at hz
        have ht : l0.tag = some k := by simpa using hz.2
        cases q : outsAt ρ is (k + 1) with
        | none => rw [q] at e; cases e
        | some os =>
          rw [q] at e; cases e
          cases j with
          | zero => simp at z; subst z; exact ⟨i, rfl, er, hz.1, ht⟩
          | succ j =>
            obtain ⟨i', g1, g2, g3, g4⟩ := outsAt_slot q (j := j) (by simpa using z)
            exact ⟨i', by simpa using g1, g2, g3, by rw [g4]; congr 1; omega⟩
      · cases e
    · cases e
theorem end_post [Pn] {ρ : En} {σ : L2.St} {F0 H0 : Hp} {ios : List Addr} {n : Nat} {args : List Lc} {outs : List Lc} {l : Lc} {v : V} (ht : tags args = List.range n) (eo : outsAt ρ (ioSlots args 0) 0 = some outs) (R2 : Rel K ⟨H0, F0, ios, nioOf args⟩ ρ F σ H)
    (r2 : RsOk K ⟨H0, F0, ios, nioOf args⟩ F H ρ σ l v) : Post K F0 H0 ios n (nioOf args) l outs v F H := by
  obtain ⟨o1, o3⟩ := outsAt_ok R2 eo
  have ol : outs.length = n := by rw [o1, ioSlots_length, ht, List.length_range]
  refine ⟨R2.ff, R2.fh, R2.fr, R2.nw, ol, fun k m em => ?_, fun a ha => (R2.ih a ha).1, fun k m b xs em hb => ?_, ?_, fun b xs hb => ?_, fun a ho ev k m ys em hy => ?_⟩
  · obtain ⟨a, o, z⟩ := o3 k m em
    rw [Nat.zero_add] at z
    exact ⟨a, o, z⟩
  · obtain ⟨i, _, g2, g3, g4⟩ := outsAt_slot eo em
    rw [Nat.zero_add] at g4
    obtain ⟨⟨z1, z2, z3⟩, w⟩ := R2.ns i m b xs g2 hb
    refine ⟨⟨z1, ?_, z3⟩, fun k' hk' e => ?_, fun k' m' ys em' hy => ?_⟩
    · rcases z2 with z2 | ⟨k2, e2, h2, _⟩
      · exact .inl z2
      · rw [g4] at e2
        cases e2
        exact .inr h2
    · obtain ⟨m', em'⟩ : ∃ m', outs[k']? = some m' := ⟨outs[k']'(by omega), List.getElem?_eq_getElem _⟩
      obtain ⟨i', _, g2', g3', g4'⟩ := outsAt_slot eo em'
      rw [Nat.zero_add] at g4'
      obtain ⟨a, es, at_⟩ := R2.at_ g2' g3'
      have ow := at_.ow
      rw [g4'] at ow
      have ow : ios[k']? = some a := ow
      rw [e] at ow
      have : b = a := by simpa using ow
      subst this
      exact (w i' m' g2').1 g3' es
    · obtain ⟨i', _, g2', g3', g4'⟩ := outsAt_slot eo em'
      rw [Nat.zero_add] at g4'
      have := (w i' m' g2').2 ys hy
      subst this
      rw [g2] at g2'
      have : m = m' := by simpa using g2'
      subst this
      rw [g4] at g4'
      exact (Option.some.inj g4').symm
  · cases l with
    | d x => exact r2
    | sc u => exact r2
    | ls p xs => obtain ⟨a, e1, e2, ⟨nf, ow, o, eo, ok⟩, _⟩ := r2; rw [e2] at ow; exact ⟨a, o, e1, ow, nf, eo, ok, e2⟩
    | dk p xs => obtain ⟨a, e1, e2, ⟨nf, ow, o, eo, ok⟩, _⟩ := r2; rw [e2] at ow; exact ⟨a, o, e1, ow, nf, eo, ok, e2⟩
    | dt p xs => obtain ⟨a, e1, e2, ⟨nf, ow, o, eo, ok⟩, _⟩ := r2; rw [e2] at ow; exact ⟨a, o, e1, ow, nf, eo, ok, e2⟩
    | ob p C xs => obtain ⟨a, e1, e2, ⟨nf, ow, o, eo, ok⟩, _⟩ := r2; rw [e2] at ow; exact ⟨a, o, e1, ow, nf, eo, ok, e2⟩
    | nb p C xs ns => obtain ⟨a, e1, e2, ⟨nf, ow, o, eo, ok⟩, _⟩ := r2; rw [e2] at ow; exact ⟨a, o, e1, ow, nf, eo, ok, e2⟩
    | ln p xs => obtain ⟨a, e1, e2, ⟨nf, ow, o, eo, ok⟩, _⟩ := r2; rw [e2] at ow; exact ⟨a, o, e1, ow, nf, eo, ok, e2⟩
  · have ho : l.own = true := by
      cases q : l.own with
      | true => rfl
      | false => rw [Lc.fp_own q] at hb; cases hb
    rw [RsOk.ref_own ho] at r2
    obtain ⟨a, rfl, e2, _, f⟩ := r2
    obtain ⟨⟨z1, z2, z3⟩, z4, z5, z6⟩ := f.ns b xs hb
    refine ⟨⟨z1, ?_, z3⟩, z4, fun k m ys em => ?_⟩
    · rcases z2 with z2 | ⟨k2, e3, _⟩
      · exact z2
      · rw [e2] at e3; cases e3
    · obtain ⟨i, _, g2, _⟩ := outsAt_slot eo em
      exact z6 i m ys g2
  · rw [RsOk.ref_own ho] at r2
    obtain ⟨a', ea, _, _, f⟩ := r2
    rw [ev] at ea
    cases ea
    obtain ⟨i, _, g2, _⟩ := outsAt_slot eo em
    exact f.hn i m ys g2 hy
theorem end_fin [Pn] {Q : VK} {Qd : Lc → List Lc → Prop} {ρ : En} {σ : L2.St} {F0 H0 : Hp} {ios : List Addr} {n : Nat} {args : List Lc} {l : Lc} {v : V} (ht : tags args = List.range n) (c : ∀ r outs v F' H', Qd r outs → Post K F0 H0 ios n (nioOf args) r outs v F' H' → Q v H')
    (hq : retOk args Qd l ρ) (R' : Rel K ⟨H0, F0, ios, nioOf args⟩ ρ F σ H) (r : RsOk K ⟨H0, F0, ios, nioOf args⟩ F H ρ σ l v) : Q v H := by
  unfold retOk at hq
  split at hq
  · rename_i outs eo
    have frz : (Qd l outs ∨ (l.fz = true ∧ Qd (.d l.pd) outs)) → Q v H := fun hq => by
      rcases hq with hq | ⟨hz, hq⟩
      · exact c _ _ v F H hq (end_post ht eo R' r)
      · obtain ⟨F2, R2, _, d⟩ := r.freeze R' hz
        exact c _ _ v F2 H hq (end_post (l := .d l.pd) ht eo R2 d)
    split at hq
    · exact c _ _ v F H hq (end_post ht eo R' r)
    · exact frz hq
  · exact False.elim hq
end
end DL
/-! The data layer, part i: promises of defs where no repr is under way, a law's end. -/
namespace DL
open PySem L2 PyProof.Rows

/-- a def's promise, called where the stack of reprs is empty -/
structure FnG (P : Program) (w : World) (K : PySem.W.Frag) (mg : Str → Option Value) (base : Heap) (CX : CXT) (k : Nat) (f : Addr) (fd : FuncData) (ps : List Str) (sp : Sp) : Prop where
  len : ∀ vs H Q E, sp vs H Q E → vs.length = ps.length
  run : ∀ (A : Around) (outer : List PySem.Env) (s : Shared) (H : Hp) (args : Args) (us : List Value) (vs : List V) (Q : VK) (E : XK), Room k A → A.guards = some [] → Env0 P w K mg base A outer s H → BindsTo s fd args (ps.zip us) → Vals vs us → sp vs H Q E →
    codeAny (model P w) A (.call (.ref f) args) (CR CX outer P w H s Q E) s
section
variable {P : Program} {w : World} {K : PySem.W.Frag} {mg : Str → Option Value} {base : Heap} {CX : CXT} {j k : Nat} {f : Addr} {fd : FuncData} {ps : List Str} {sp sp' : Sp} {X : Cx} {E : XK} {dvs : List V} {ds : List Value} {n : Str} {p pos : Pos} {e : Expr} {es : List Expr} {t : TA} {S : FSpec} {tt : TAd} {F H : Hp} {st : Stmt} {ρ : En}
theorem FnG.mono (h : FnG P w K mg base CX j f fd ps sp) (hk : j ≤ k) : FnG P w K mg base CX k f fd ps sp := ⟨h.len, fun A outer s H args us vs Q E hr => h.run A outer s H args us vs Q E (hr.mono hk)⟩
theorem runG {pins : List (Addr × Obj)} {σ : L2.St} {s : Shared} {Q : VK} {us : List Value} {vs : List V} (G : FnG X.prog X.w X.K X.mg X.base CX k f fd ps sp) (hr : Room k X.A) (hgd : X.A.guards = some []) (hb : Binds X.K fd ps ds) (hd : Vals dvs ds) (hx : Passes CX X E)
    (I : Inv X pins σ H s) (r : Vals vs us) (h : sp (vs ++ dvs) H Q E) : wpAny (model X.prog X.w) X.A (call (.ref f) us) (EP X pins σ Q) X.xe s := by
  have rr : Vals (vs ++ dvs) (us ++ ds) := r.append hd
  have ll : (us ++ ds).length = ps.length := rr.length.symm.trans (G.len _ _ _ _ h)
  have run := G.run X.A X.stack s H ⟨us, []⟩ (us ++ ds) (vs ++ dvs) Q E hr hgd I.env0 (hb s us I.kIn ll) rr h
  refine wpAny_call (codeAny_mono run fun res s' hq => ?_)
  rcases res with e' | fl
  · exact hx pins σ H s e' s' I hq
  · cases fl <;> first | exact I.after hq | exact False.elim hq
theorem peG (G : FnG X.prog X.w X.K X.mg X.base CX k f fd ps sp) (hr : Room k X.A) (hgd : X.A.guards = some []) (hg : Gl X n) (hm : X.mg n = some (.ref f)) (hk : PySem.W.keepIn X.K (.ref f) = true) (hb : Binds X.K fd ps ds) (hd : Vals dvs ds) (hx : Passes CX X E)
    (ha : PA X (e :: es) t) (hdb : (n == ("__debug__" : Str)) = false := by decide) (he : starEach (e :: es) X.env = (false, eval e X.env) :: starEach es X.env := by rfl) (hpl : (backTo pos (starEach es X.env)).any (·.1) = false := by rfl) :
    PE X (.Call (.Name n p) (e :: es) [] pos) (tCall sp dvs E t) :=
  ⟨fun pins s σ H Q I h => wpAny_Call_Name_kw (ld_glob I hg hm (PySem.W.callWith_K (h₀ := X.base) I.ok.mod.kin hk (thn (ha.run pos pins s σ H _ I h) fun us s1 ⟨vs, H1, I1, r, q⟩ => ⟨I1.kIn, runG G hr hgd hb hd hx I1 r q⟩) he hpl) hdb)⟩
theorem LF.call [Pn] (G : FnG X.prog X.w X.K X.mg X.base CX0 k f fd ps (liftC X.K S)) (hr : Room k X.A) (hgd : X.A.guards = some []) (hg : Gl X n) (hm : X.mg n = some (.ref f)) (hk : PySem.W.keepIn X.K (.ref f) = true) (hb : Binds X.K fd ps []) (ha : LA X (e :: es) tt)
    (hdb : (n == ("__debug__" : Str)) = false := by decide) (he : starEach (e :: es) X.env = (false, eval e X.env) :: starEach es X.env := by rfl) (hpl : (backTo pos (starEach es X.env)).any (·.1) = false := by rfl) :
    LF X (.Call (.Name n p) (e :: es) [] pos) (fCall S tt) := ⟨peImp (peG G hr hgd hg hm hk hb .nil pass0 ha.p hdb he hpl) fun σ H Q h => tCall_of h⟩
theorem fnG {name qual : Str} {params : Arguments} {body : List Stmt} {scope : Scope} {dV kV doc pm cdv ct oc : Value} {an od : Option Addr} {osl : Array (Option Value)} {N : List Str}
    (lk : K.lookup f = some ⟨oc, od, .func (PySem.W.fnOf name qual params body scope dV kV doc pm an cdv ct), osl⟩) (hcd : PySem.W.codeIn K cdv qual = true) (S : FnScope N ps scope) (len : ∀ vs H Q E, sp vs H Q E → vs.length = ps.length)
    (hbody : ∀ (A : Around) (outer : List PySem.Env) (s : Shared) (H : Hp) (vs : List V) (Q : VK) (E : XK), Room k (A.deeper (envOfC qual scope s.heap.objs.size f cdv)) → (A.deeper (envOfC qual scope s.heap.objs.size f cdv)).guards = some [] → sp vs H Q E →
      ∃ t, PSs (cxOf CX P w K mg base N qual scope f cdv A outer s H E) body t ∧ t { nx := fun _ H' => Q .non H', rt := Q } (start N vs) H) :
    FnG P w K mg base CX (k + 1) f (PySem.W.fnOf name qual params body scope dV kV doc pm an cdv ct) ps sp := by
  refine ⟨len, fun A outer s H args us vs Q E room hgd env0 bind vals want => ?_⟩
  have hl := len _ _ _ _ want
  have kin : K.In s.heap := env0.mod.kin.keeps fun b o q => (env0.bs b o q).1
  have nolim : s.heap.NoLimit := env0.mod.nolimit.keeps fun b o q => (env0.bs b o q).1
  have kinds : ∀ y ∈ ps.zip us, scope.names.lookup y.1 = some .local ∨ (scope.names.lookup y.1 = some .cell ∧ ((cellsFrom (s.heap.objs.size + 1) scope.names []).lookup y.1).isSome = true) := fun ⟨nm, v⟩ hy =>
    (S.par nm (List.of_mem_zip hy).1).elim .inl fun q => .inr ⟨q, PySem.W.cellsFrom_some _ _ _ (.inl q)⟩
  refine codeAny_call_function room.depth (kin _ _ lk) rfl S.co S.gen rfl (PySem.W.codeRec_of kin hcd) (bind _ _ _ _ (wpAny_newFunctionEnv_cells S.kind kinds fun env he s1 x => ?_))
  subst he
  refine ⟨nolim.keeps x.toInCall.keep, codeAny_func ?_⟩
  obtain ⟨t, ht, hq⟩ := hbody A outer s H vs Q E (room.deeper _) hgd want
  have inv : Inv (cxOf CX P w K mg base N qual scope f cdv A outer s H E) [] (start N vs) H s1 := inv_start S room.hd env0 hl vals x
  refine wpAny_mono (ht.run [] s1 (start N vs) H _ inv hq) (fun fl s' hs => ?_) fun _ _ z => z
  cases fl with
  | ret u => obtain ⟨v, σ', H', J, rv, q⟩ := hs; exact ⟨v, H', J.os, J.bare, J.base, J.hok, rv, q⟩
  | next => obtain ⟨σ', H', J, q⟩ := hs; exact ⟨V.non, H', J.os, J.bare, J.base, J.hok, rfl, q⟩
  | brk => obtain ⟨_, _, _, z⟩ := hs; exact False.elim z
  | cont => obtain ⟨_, _, _, z⟩ := hs; exact False.elim z
/-- a def of the text, whatever its defaults -/
structure FunX (K : PySem.W.Frag) (x qual : Str) (st : Stmt) (f : Addr) (fd : FuncData) : Prop where
  ex : ∃ (oc : Value) (od : Option Addr) (dV kV doc pm : Value) (an : Option Addr) (cdv ct : Value) (osl : Array (Option Value)),
    fd = PySem.W.fnOf x qual (defArgs st) (defBody st) (defScope st) dV kV doc pm an cdv ct ∧ K.lookup f = some ⟨oc, od, .func fd, osl⟩ ∧ PySem.W.codeIn K cdv qual = true
theorem funX_of {x qual : Str} (Fn : Fun K x qual st f fd) : FunX K x qual st f fd := by
  obtain ⟨oc, od, kV, doc, pm, an, cdv, ct, osl, h⟩ := Fn.ex
  exact ⟨oc, od, .none, kV, doc, pm, an, cdv, ct, osl, h⟩
theorem funG {x qual : Str} {N : List Str} (Fn : FunX K x qual st f fd) (Sc : FnScope N ps (defScope st)) (len : ∀ vs H Q E, sp vs H Q E → vs.length = ps.length)
    (hbody : ∀ (cdv : Value) (A : Around) (outer : List PySem.Env) (s : Shared) (H : Hp) (vs : List V) (Q : VK) (E : XK), Room k (A.deeper (envOfC qual (defScope st) s.heap.objs.size f cdv)) → (A.deeper (envOfC qual (defScope st) s.heap.objs.size f cdv)).guards = some [] → sp vs H Q E →
      ∃ t, PSs (cxOf CX0 P w K mg base N qual (defScope st) f cdv A outer s H E).nox (defBody st) t ∧ t { nx := fun _ H' => Q .non H', rt := Q } (start N vs) H) : FnG P w K mg base CX0 (k + 1) f fd ps sp := by
  obtain ⟨oc, od, dV, kV, doc, pm, an, cdv, ct, osl, rfl, lk, hcd⟩ := Fn.ex
  refine fnG lk hcd Sc len fun A outer s H vs Q E hr hgd hsp => ?_
  obtain ⟨t, h, q⟩ := hbody cdv A outer s H vs Q E hr hgd hsp
  exact ⟨t, h.nox, q⟩
theorem def_okX {x qual : Str} {N : List Str} {ir : TSt} (Fn : FunX K x qual st f fd) (Sc : FnScope N ps (defScope st)) (len : ∀ args Q, S.sp args Q → args.length = ps.length)
    (hb : ∀ [Pn] (cdv : Value) (A : Around) (outer : List PySem.Env) (s : Shared) (H : Hp) (E : XK), Room k (A.deeper (envOfC qual (defScope st) s.heap.objs.size f cdv)) → (A.deeper (envOfC qual (defScope st) s.heap.objs.size f cdv)).guards = some [] → LSs (cxOf CX0 P w K mg base N qual (defScope st) f cdv A outer s H E).nox (defBody st) ir)
    (hsp : ∀ args Q, S.sp args Q → ir (endsOf args Q) (rho0 N args)) : FnG P w K mg base CX0 (k + 1) f fd ps (liftC K S) := by
  refine funG Fn Sc (fun vs H Q E h => ?_) fun cdv A outer s H vs Q E hr hgd h => ?_
  · obtain ⟨args, F, ios, n, Qd, _, a, _, h, _⟩ := h
    rw [← a.length]; exact len args Qd h
  · obtain ⟨args, F, ios, n, Qd, s0, a, io, h, c⟩ := h
    letI : Pn := Pn.any
    refine ⟨_, (hb cdv A outer s H E hr hgd).p, ?_⟩
    have R := Rel.start (N := N) trivial s0 a io
    exact ⟨⟨H, F, ios, nioOf args⟩, rho0 N args, F, endsOf args Qd, R, hsp args Qd h, ⟨fun ρ σ H' F' hq R' s' => end_fin (l := .d .none) (v := .non) io.tg c hq R' (show Df K F' .non .none from .non), fun l ρ v σ H' F' hq R' s' r => end_fin io.tg c hq R' r, fun _ _ _ _ z => False.elim z, fun _ _ _ _ z => False.elim z⟩⟩

theorem def_ok {x qual : Str} {N : List Str} {ir : TSt} (Fn : Fun K x qual st f fd) (Sc : FnScope N ps (defScope st)) (len : ∀ args Q, S.sp args Q → args.length = ps.length)
    (hb : ∀ [Pn] (cdv : Value) (A : Around) (outer : List PySem.Env) (s : Shared) (H : Hp) (E : XK), Room k (A.deeper (envOfC qual (defScope st) s.heap.objs.size f cdv)) → (A.deeper (envOfC qual (defScope st) s.heap.objs.size f cdv)).guards = some [] → LSs (cxOf CX0 P w K mg base N qual (defScope st) f cdv A outer s H E).nox (defBody st) ir)
    (hsp : ∀ args Q, S.sp args Q → ir (endsOf args Q) (rho0 N args)) : FnG P w K mg base CX0 (k + 1) f fd ps (liftC K S) := def_okX (funX_of Fn) Sc len hb hsp
/-- a def of the text that stands by its name -/
structure Dn (K : PySem.W.Frag) (mg : Str → Option Value) (n : Str) (st : Stmt) (ps : List Str) : Prop where
  ex : ∃ f fd, Fun K n n st f fd ∧ mg n = some (.ref f) ∧ Binds K fd ps []
/-- a def that may be called by its name -/
structure Cal (P : Program) (w : World) (K : PySem.W.Frag) (mg : Str → Option Value) (base : Heap) (k : Nat) (n : Str) (ps : List Str) (S : FSpec) : Prop where
  ex : ∃ f fd, FnG P w K mg base CX0 k f fd ps (liftC K S) ∧ mg n = some (.ref f) ∧ PySem.W.keepIn K (.ref f) = true ∧ Binds K fd ps []
theorem Cal.mono (h : Cal P w K mg base j n ps S) (hk : j ≤ k) : Cal P w K mg base k n ps S := by
  obtain ⟨f, fd, h1, h2⟩ := h.ex
  exact ⟨f, fd, h1.mono hk, h2⟩
theorem LF.cal [Pn] (C : Cal X.prog X.w X.K X.mg X.base k n ps S) (hr : Room k X.A) (hgd : X.A.guards = some []) (hg : Gl X n) (ha : LA X (e :: es) tt)
    (hdb : (n == ("__debug__" : Str)) = false := by decide) (he : starEach (e :: es) X.env = (false, eval e X.env) :: starEach es X.env := by rfl) (hpl : (backTo pos (starEach es X.env)).any (·.1) = false := by rfl) :
    LF X (.Call (.Name n p) (e :: es) [] pos) (fCall S tt) := by
  obtain ⟨f, fd, h1, h2, h3, h4⟩ := C.ex
  exact LF.call h1 hr hgd hg h2 h3 h4 ha hdb he hpl
theorem def_cal {N : List Str} {ir : TSt} (D : Dn K mg n st ps) (Sc : FnScope N ps (defScope st)) (len : ∀ args Q, S.sp args Q → args.length = ps.length)
    (hb : ∀ [Pn] (f : Addr) (cdv : Value) (A : Around) (outer : List PySem.Env) (s : Shared) (H : Hp) (E : XK), Room k (A.deeper (envOfC n (defScope st) s.heap.objs.size f cdv)) → (A.deeper (envOfC n (defScope st) s.heap.objs.size f cdv)).guards = some [] → LSs (cxOf CX0 P w K mg base N n (defScope st) f cdv A outer s H E).nox (defBody st) ir)
    (hsp : ∀ args Q, S.sp args Q → ir (endsOf args Q) (rho0 N args)) : Cal P w K mg base (k + 1) n ps S := by
  obtain ⟨f, fd, h1, h2, h3⟩ := D.ex
  exact ⟨f, fd, def_ok h1 Sc len (hb f) hsp, h2, h1.kp, h3⟩
/-- a constant of the text -/
structure Glb (K : PySem.W.Frag) (mg : Str → Option Value) (n : Str) (d : PD) : Prop where
  ex : ∃ v u, mg n = some u ∧ RelV v u ∧ ∀ F, Df K F v d
theorem LD.glb [Pn] {d : PD} (h : Glb X.K X.mg n d) (hg : Gl X n) (hd : (n == ("__debug__" : Str)) = false := by decide) : LD X (.Name n pos) (dC d) := by
  obtain ⟨v, u, h1, h2, h3⟩ := h.ex
  exact LD.glob hg h1 h2 h3 hd

/-! ### a comprehension's names -/
def FreeOk (sc : Scope) : List Str → Prop
  | [] => True
  | x :: r => (sc.names.lookup x = some .cell ∨ sc.names.lookup x = some .free) ∧ FreeOk sc r
theorem FreeOk.mem {sc : Scope} : ∀ {xs : List Str} {x : Str}, FreeOk sc xs → x ∈ xs → sc.names.lookup x = some .cell ∨ sc.names.lookup x = some .free
  | [], x, _, h => by simp at h
  | y :: r, x, h, hx => by
    rcases List.mem_cons.mp hx with rfl | hx
    · exact h.1
    · exact FreeOk.mem h.2 hx
def blkChk (N : List Str) (scope : Scope) (own : List (Str × Nat)) (frees : List Str) : Bool :=
  decide (scope.kind = .function) && scope.names.all (fun y => decide (scope.names.lookup y.1 = some y.2)) && own.all (fun p => decide (N[p.2]? = some p.1)) &&
  scope.names.all (fun y => !decide (y.2 = .free) || decide (y.1 ∈ frees)) && scope.names.all (fun y => !(decide (y.2 = .local) || decide (y.2 = .cell)) || decide (y.1 ∈ own.map (·.1)) || decide (y.1 ∉ N))
theorem blk_mk {N : List Str} {sc scope : Scope} {own : List (Str × Nat)} (frees : List Str) (h : blkChk N scope own frees = true) (hf : FreeOk sc frees) : BlkOk N sc scope own := by
  unfold blkChk at h
  simp only [Bool.and_eq_true, List.all_eq_true, Bool.or_eq_true, Bool.not_eq_true', decide_eq_true_eq, decide_eq_false_iff_not] at h
  obtain ⟨⟨⟨⟨h1, h2⟩, h3⟩, h4⟩, h5⟩ := h
  refine ⟨h1, h2, h3, fun y hy e => hf.mem ((h4 y hy).resolve_left fun z => z e), fun y hy e => ?_⟩
  rcases h5 y hy with (z | z) | z
  · simp only [Bool.or_eq_false_iff, decide_eq_false_iff_not] at z
    exact e.elim (fun q => absurd q z.1) fun q => absurd q z.2
  · exact .inl z
  · exact .inr z
end

/-- a slice of the script -/
def dSlS (i : Nat) (lo hi : TPd) : TD := fun ρ Q => match ρ[i]? with
  | some (some (.sc xs)) => lo ρ fun a ρ1 => hi ρ1 fun b ρ2 => Q (.list (cutD xs a b)) ρ2
  | _ => False
theorem LD.slS [Pn] {X : Cx} {e : Expr} {lo hi : Option Expr} {tl th : TPd} {p2 pos : Pos} (i : Nat) (he : PE X e (tVar i)) (hl : LP X lo tl) (hh : LP X hi th) : LD X (.Subscript e (.Slice lo hi none p2) pos) (dSlS i tl th) :=
  ⟨peImp (pe_slice sl_list he hl.p hh.p) fun σ H Q ⟨G, ρ, F, Q', R, q, c⟩ => by
    unfold dSlS at q
    split at q
    · rename_i xs er
      obtain ⟨v, es, a, vs, rfl, hq, ds⟩ := R.sl i _ er
      refine ⟨_, es, G, ρ, F, _, R, q, fun x ρ1 H1 F1 h1 R1 s1 => ⟨G, ρ1, F1, _, R1, h1, fun y ρ2 H2 F2 h2 R2 s2 => ?_⟩⟩
      have s12 := s1.trans s2
      refine ⟨a, vs, rfl, R2.fh.seq (s12.seq hq), fun p hp => ?_⟩
      have g := Grow.frozen R2.fh hp (.lst (cutV vs x y))
      exact c _ _ _ _ _ h2 (R2.grow g) (s12.trans g.ff) (.lst (.inl upd_same) ((cut_df ds x y).mono (s12.trans g.ff)))
    · exact False.elim q⟩

/-! ### a law's end -/
section
variable {P : Program} {w : World} {K : PySem.W.Frag} {mg mb : Str → Option Value} {k : Nat} {fa a : Addr} {fd : FuncData} {x : Str} {sp : Sp} {s0 : Shared} {vs : List Value} {ns : List Int}
/-- the law's call, at the heap behind the top -/
theorem callG (KX : K.In s0.heap) (hns : s0.heap.Ns mainGlobals mg) (hb : s0.heap.Ns builtinsNs mb) (hbb : ∀ x : Str, x ≠ "__name__" → mb x = bootBuiltins x) (hlim : s0.heap.NoLimit) (hdig : s0.heap.NoDigits) (hg : s0.gens = #[])
    (ha : s0.heap.get? a = some { cls := .type "list", data := .seq vs.toArray }) (hi : IntsAre vs ns) (hl : ns.length ≤ sizeLine) (hr : Room k callerA)
    (Fn : ∀ base : Heap, K.In base → base.Ns mainGlobals mg → base.NoDigits → FnG P w K mg base CX0 k fa fd [x] sp) (hbind : ∀ (s : Shared) (u : Value), BindsTo s fd ⟨[u], []⟩ [(x, u)])
    (hsp : ∀ H : Hp, L2.Only H → SqL K H a (ns.map V.int) → sp [.ref a] H (fun v _ => v = .bl true) fun _ _ _ => False) :
    codeAny (model P w) callerA (.call (.ref fa) ⟨[.ref a], []⟩) (fun r s' => r = .ok (.ret (.bool true)) ∧ OldK s0.heap s'.heap ∧ s'.os = s0.os ∧ AllBare s'.gens) s0 := by
  have rv := vals_ints hi
  have lenV := hi.length
  have main : ∀ H : Hp, L2.Only H → SqL K H a (ns.map V.int) → HOk P w H s0.heap → (∀ b, H b ≠ none → b = a) → (H a ≠ none → K.lookup a = none) →
      codeAny (model P w) callerA (.call (.ref fa) ⟨[.ref a], []⟩) (fun r s' => r = .ok (.ret (.bool true)) ∧ OldK s0.heap s'.heap ∧ s'.os = s0.os ∧ AllBare s'.gens) s0 := by
    intro H only sq hok one inK
    -- what is no list stands in the base, too
    have noDict : ∀ {b : Addr} {o : Obj} {es : Array DictEntry} {ep : Nat}, s0.heap.get? b = some o → o.data = .dict es ep → H b = none := fun {b o es ep} e d => by
      by_cases z : H b = none
      · exact z
      · have : b = a := one b z
        subst this
        rw [ha] at e; cases e; cases d
    have ns' : ∀ {b : Addr} {m : Str → Option Value}, s0.heap.Ns b m → (hidT s0.heap H).Ns b m := fun ⟨o, es, ep, e, d, r⟩ => ⟨o, es, ep, hidT_get e (noDict e d), d, r⟩
    have kin : K.In (hidT s0.heap H) := fun b o e => hidT_get (KX b o e) (by
      by_cases z : H b = none
      · exact z
      · have q : b = a := one b z
        subst q
        have := inK z
        rw [this] at e; cases e)
    have mod : Mod K mg (hidT s0.heap H) := ⟨kin, ns' hns, ⟨mb, ns' hb, hbb⟩, let ⟨mc, h1, h2⟩ := hlim; ⟨mc, ns' h1, h2⟩⟩
    have dig : (hidT s0.heap H).NoDigits := let ⟨mc, h1, h2⟩ := hdig; ⟨mc, ns' h1, h2⟩
    have env0 : Env0 P w K mg (hidT s0.heap H) callerA [] s0 H := ⟨rfl, mod, fun b o e => of_hidT e, Nat.le_of_eq (hidT_size _ _), trivial, fun b z => (by cases z), hok, .of_eq hg⟩
    refine codeAny_mono ((Fn _ kin (ns' hns) dig).run callerA [] s0 H ⟨[.ref a], []⟩ [.ref a] [.ref a] _ _ hr rfl env0 (hbind s0 (.ref a)) (.cons rfl .nil) (hsp H only sq)) fun r s' h => ?_
    rcases r with e | fl
    · exact False.elim h
    · cases fl <;> first | exact False.elim h | skip
      rename_i u
      obtain ⟨v, H', os, bare, un, hok', r', q⟩ := h
      have q : v = .bl true := q
      subst q
      have r' : u = Value.bool true := r'
      subst r'
      refine ⟨rfl, OldK.of_keep fun b o e => ?_, os, bare⟩
      rcases only b with z | ⟨ob, xs, z⟩
      · exact un.keep b o e z (fun hm => by cases hm) (fun hm => by cases hm)
      · have z2 := un.frzs b ob _ z
        have e1 := (hok b _ z).1
        have e2 := (hok' b _ z2).1
        rw [e] at e1; cases e1; exact e2
  cases hk : K.lookup a with
  | some o =>
    have e := KX a o hk
    rw [ha] at e
    cases e
    refine main (fun _ => none) (fun _ => .inl rfl) (.inr ⟨_, vs.toArray, _, hk, rfl, rfl, rfl, ?_, by simpa using rv⟩) (fun b u z => by cases z) (fun b z => absurd rfl z) fun z => absurd rfl z
    simp only [List.size_toArray, lenV]; exact hl
  | none =>
    let H : Hp := fun b => if b = a then some (.frz { cls := .type "list", data := .seq vs.toArray } (.lst (ns.map V.int))) else none
    have at_ : H a = some (.frz { cls := .type "list", data := .seq vs.toArray } (.lst (ns.map V.int))) := if_pos rfl
    have off : ∀ {b}, b ≠ a → H b = none := fun z => if_neg z
    refine main H (fun b => ?_) (.inl (.inr ⟨_, at_⟩)) (fun b u z => ?_) (fun b z => ?_) fun _ => hk
    · by_cases hb : b = a
      · subst hb; exact .inr ⟨_, _, at_⟩
      · exact .inl (off hb)
    · by_cases hb : b = a
      · subst hb
        rw [at_] at z
        cases z
        refine ⟨ha, ?_, vs, _, rv, ha⟩
        simp only [List.length_map]; exact hl
      · rw [off hb] at z; cases z
    · by_cases hb : b = a
      · exact hb
      · exact absurd (off hb) z
/-- what the law's def promises: True for every list of ints -/
def lawS : FSpec := ⟨fun args Q => ∃ ns : List Int, args = [.sc (ns.map .int)] ∧ ns.length ≤ 63 ∧ Q (.d (.bool true)) []⟩
theorem lawS_end {H : Hp} (hS : SqL K H a (ns.map V.int)) (hl : ns.length ≤ 63) : liftC K lawS [.ref a] H (fun v _ => v = .bl true) fun _ _ _ => False := by
  refine ⟨[.sc (ns.map .int)], H, [], 0, fun r outs => r = .d (.bool true), Same.refl _, .cons ⟨a, _, rfl, hS, DfA.ints ns⟩ .nil, ⟨List.nodup_nil, (fun a h => by cases h), rfl, Nat.le_refl _, (fun k b h => by cases h), fun i j l m b xs ys e1 e2 h1 h2 => by cases i with | zero => simp at e1; subst e1; cases h1 | succ i => simp at e1⟩, ⟨ns, rfl, hl, rfl⟩, fun r outs v F' H' e Po => ?_⟩
  subst e
  have := Po.rs
  cases this
  rfl
open PySem.W in
/-- the goal that k_head leaves -/
theorem walkG {l : PySem.W.OpenLaw} {q : Program} {loose : List Str} {XP : (Str → Option Value) → Heap → Prop} {YP : World → Heap → Prop} {d : DefRec} {K : Params → PySem.W.Frag} {x : Str}
    (hn : l.most = some 63) (hdf : d.params.defaults = []) (hr : Room k callerA) (hY : ∀ (w : World) (h : Heap), YP w h → (K w.params).In h)
    (Fn : ∀ (w : World) (mg : Str → Option Value) (fa : Addr) (h : Heap), (K w.params).In h → h.Ns mainGlobals mg → mg d.name = some (.ref fa) →
      ∃ fd : FuncData, (∀ (s : Shared) (u : Value), BindsTo s fd ⟨[u], []⟩ [(x, u)]) ∧ ∀ base : Heap, (K w.params).In base → base.Ns mainGlobals mg → base.NoDigits → FnG l.prog w (K w.params) mg base CX0 k fa fd [x] (liftC (K w.params) lawS)) :
    PySem.W.WalkO q loose XP YP l.row.toRowW d [] (fun f vs => PySem.call f vs) := by
  refine Att.attach_call hn hdf fun w s₀ s₁ mg mb fa o pm cd doc a vs ns G Y ho hd hcd hmg hobj hints hlen hg => ?_
  have KX := hY w _ Y
  obtain ⟨fd, hb, hF⟩ := Fn w mg fa _ KX G.T.g hmg
  exact callG KX G.T.g G.T.b G.T.builtins G.T.nolimit G.T.nodigits hg hobj hints (Nat.le_trans hlen (by decide)) hr hF hb fun H _ hS => lawS_end hS hlen
end
end DL
/-! The data layer, part j: repr. -/
namespace DL
open PySem L2 PyProof.Rows

mutual
/-- what repr shows here: no dict, ints of at most 4300 figures -/
def shw : PD → Bool
  | .int i => decide (i.natAbs < 10 ^ 4300)
  | .list xs => shwA xs
  | .tuple xs => shwA xs
  | .dict _ => false
  | .none => true
  | .bool _ => true
  | .str _ => true
def shwA : List PD → Bool
  | [] => true
  | x :: r => shw x && shwA r
end
section
variable {prog : Program} {w : World} {A : Around} {E : Value → Shared → Prop} {s : Shared} {a : Int} {t : Tok}
theorem intCallW {Q : Value → Shared → Prop} (hn : s.heap.NoDigits) (hl : a.natAbs < 10 ^ 4300) (h : Q (.str (toString a) s.toks) { s with toks := s.toks + 1 }) :
    wpAny (model prog w) A (call (.builtin "int.__repr__") [.int a t]) Q E s := by
  refine wpAny_call_entry F.slot_int_repr (typeIs_int s a t) F.entry_int_repr ?_ (F.args_int_repr_1 _); unfold Builtin.«int.__repr__»
  show wpAny _ _ (do let r ← Builtin.overDigitLimit? a; _) _ _ s; refine wpAny_bind (overDigitLimit_any hn (fun l => ?_) (fun g => absurd hl (Nat.not_lt.mpr g)))
  exact wpAny_bind (wpAny_mkStr (wpAny_pure ⟨_, rfl, h⟩) (int_text_fits10 hl))
theorem intReprW {Q : Value → Shared → Prop} (hu : A.units + 1 < cLine) (hn : s.heap.NoDigits) (hl : a.natAbs < 10 ^ 4300) (h : Q (.str (toString a) s.toks) { s with toks := s.toks + 1 }) :
    wpAny (model prog w) A (pyReprObj (.int a t)) Q E s :=
  wpAny_pyReprObj_slot (by omega) (typeIs_int s a t) F.slot_int_repr.toG (intCallW hn hl ⟨_, _, rfl, h⟩)
variable {h₀ : Heap}
mutual
theorem rk_of (hn : h₀.NoDigits) : ∀ {v : Value} {d : PD} {as : List Addr}, Reads h₀ v d as → shw d = true → d.shown.length ≤ sizeLine → ∃ bs, ReadAtMost h₀ (d.depth + 1) bs ∧ (∀ b ∈ bs, ∃ e as, Reads h₀ (.ref b) e as ∧ e.depth ≤ d.depth) ∧ ReprK prog w bs h₀ (d.depth + 1) v d.shown
  | _, _, _, .none, _, _ => ⟨[], (fun _ h => nomatch h), (fun _ h => nomatch h), by rw [PyData.shown]; exact .of_is ReprIs.none _ _ _⟩
  | _, _, _, .bool b, _, _ => ⟨[], (fun _ h => nomatch h), (fun _ h => nomatch h), by rw [PyData.shown]; exact .of_is (ReprIs.bool b) _ _ _⟩
  | _, _, _, .str x t, _, hz => ⟨[], (fun _ h => nomatch h), (fun _ h => nomatch h), by rw [PyData.shown] at hz ⊢; exact .of_is (ReprIs.str x t hz) _ _ _⟩
  | _, _, _, .int i t, hs, hz => ⟨[], (fun _ h => nomatch h), (fun _ h => nomatch h), by
      rw [PyData.shown]
      intro base hb A g E s Q hg hc hu hk hQ
      rw [pyReprUnder_leaf (v := .int i t) (by omega) (fun _ e => nomatch e)]
      unfold pyRepr
      exact wpAny_bind (intReprW (by simp only [PyData.depth] at hu; omega) (hn.keeps hk) (by simpa [shw] using hs) (wpAny_pure (hQ s.heap _ fun _ _ e => e)))⟩
  | _, _, _, .dict _ _ _ _ _, hs, _ => by simp [shw] at hs
  | _, _, _, .list (a := a) (vs := vs) (xs := xs) h1 h2 h3 h4, hs, hz => by
    rw [PyData.shown] at hz ⊢
    obtain ⟨bs, hb, hb2, hk⟩ := rkA_of hn h4 (by simpa [shw] using hs) (fun t ht => Nat.le_trans (listText_mem_le ht) hz)
    have r : Reads h₀ (.ref a) (.list xs) _ := .list h1 h2 h3 h4
    have dd : (PyData.list xs).depth = PyData.depthAll xs + 1 := by first | rfl | (simp only [PyData.depth]; done) | (simp only [PyData.depth]; omega)
    have hna : a ∉ bs := fun hm => by
      obtain ⟨e, as', r', le⟩ := hb2 a hm
      obtain ⟨q, _⟩ := reads_det (fun _ _ e _ => e) r r'
      rw [q, dd] at le
      omega
    have all : ∀ b ∈ a :: bs, ∃ e as, Reads h₀ (.ref b) e as ∧ e.depth ≤ (PyData.list xs).depth := fun b hm => by
      rcases List.mem_cons.mp hm with q | hm
      · subst q; exact ⟨_, _, r, Nat.le_refl _⟩
      · obtain ⟨e, as', r', le⟩ := hb2 b hm; exact ⟨e, as', r', by omega⟩
    refine ⟨a :: bs, fun b hm => let ⟨e, as', r', le⟩ := all b hm; ⟨e, as', r', by omega⟩, all, ?_⟩
    rw [dd]
    obtain ⟨l⟩ := vs
    cases l with
    | nil =>
      have h4' : ReadsAll h₀ [] xs _ := h4
      cases h4'
      rw [PyData.shownAll, listText_nil]
      exact ReprK.listEmpty h1 h2 h3
    | cons x l => exact ReprK.list h1 h2 h3 hna (by simpa using hk.length_eq) (fun i y e => hk.item i y (by simpa using e))
  | _, _, _, .tuple (a := a) (xs := xs) h1 h2 h3 h4, hs, hz => by
    rw [PyData.shown] at hz ⊢
    obtain ⟨bs, hb, hb2, hk⟩ := rkA_of hn h4 (by simpa [shw] using hs) (fun t ht => Nat.le_trans (tupleText_mem_le ht) hz)
    have r : Reads h₀ (.ref a) (.tuple xs) _ := .tuple h1 h2 h3 h4
    have dd : (PyData.tuple xs).depth = PyData.depthAll xs + 1 := by first | rfl | (simp only [PyData.depth]; done) | (simp only [PyData.depth]; omega)
    have hna : a ∉ bs := fun hm => by
      obtain ⟨e, as', r', le⟩ := hb2 a hm
      obtain ⟨q, _⟩ := reads_det (fun _ _ e _ => e) r r'
      rw [q, dd] at le
      omega
    have all : ∀ b ∈ a :: bs, ∃ e as, Reads h₀ (.ref b) e as ∧ e.depth ≤ (PyData.tuple xs).depth := fun b hm => by
      rcases List.mem_cons.mp hm with q | hm
      · subst q; exact ⟨_, _, r, Nat.le_refl _⟩
      · obtain ⟨e, as', r', le⟩ := hb2 b hm; exact ⟨e, as', r', by omega⟩
    refine ⟨a :: bs, fun b hm => let ⟨e, as', r', le⟩ := all b hm; ⟨e, as', r', by omega⟩, all, ?_⟩
    rw [dd]
    exact ReprK.tuple h1 h2 h3 hna hk
theorem rkA_of (hn : h₀.NoDigits) : ∀ {vs : List Value} {ds : List PD} {as : List Addr}, ReadsAll h₀ vs ds as → shwA ds = true → (∀ t ∈ PyData.shownAll ds, t.length ≤ sizeLine) →
    ∃ bs, ReadAtMost h₀ (PyData.depthAll ds + 1) bs ∧ (∀ b ∈ bs, ∃ e as, Reads h₀ (.ref b) e as ∧ e.depth ≤ PyData.depthAll ds) ∧ ReprAllK prog w bs h₀ (PyData.depthAll ds + 1) vs (PyData.shownAll ds)
  | _, _, _, .nil, _, _ => ⟨[], (fun _ h => nomatch h), (fun _ h => nomatch h), by rw [PyData.shownAll]; exact .nil⟩
  | _, _, _, .cons (d := d) (ds := ds) r rs, hs, hz => by
    have hs' : shw d = true ∧ shwA ds = true := by simpa [shwA] using hs
    rw [PyData.shownAll] at hz ⊢
    obtain ⟨b1, hb1, hc1, k1⟩ := rk_of hn r hs'.1 (hz _ List.mem_cons_self)
    obtain ⟨b2, hb2, hc2, k2⟩ := rkA_of hn rs hs'.2 (fun t ht => hz t (List.mem_cons_of_mem _ ht))
    have m1 : d.depth ≤ PyData.depthAll (d :: ds) := by simp only [PyData.depthAll]; exact Nat.le_max_left _ _
    have m2 : PyData.depthAll ds ≤ PyData.depthAll (d :: ds) := by simp only [PyData.depthAll]; exact Nat.le_max_right _ _
    have all : ∀ b ∈ b1 ++ b2, ∃ e as, Reads h₀ (.ref b) e as ∧ e.depth ≤ PyData.depthAll (d :: ds) := fun b hm => by
      rcases List.mem_append.mp hm with hm | hm
      · obtain ⟨e, as', r', le⟩ := hc1 b hm; exact ⟨e, as', r', by omega⟩
      · obtain ⟨e, as', r', le⟩ := hc2 b hm; exact ⟨e, as', r', by omega⟩
    exact ⟨b1 ++ b2, fun b hm => let ⟨e, as', r', le⟩ := all b hm; ⟨e, as', r', by omega⟩, all,
      .cons ((k1.more fun b hb => List.mem_append_left _ hb).level_le (by omega)) (k2.more_le (fun b hb => List.mem_append_right _ hb) (by omega))⟩
end
/-- repr of a list or tuple -/
theorem reprW (hn : h₀.NoDigits) {b : Addr} {d : PD} {as : List Addr} {Q : Value → Shared → Prop} (r : Reads h₀ (.ref b) d as) (hs : shw d = true) (hz : d.shown.length ≤ sizeLine) (hg : A.guards = some []) (hu : A.units + (d.depth + 2) < cLine)
    (hk0 : ∀ b o, h₀.get? b = some o → s.heap.get? b = some o) (hQ : ∀ h' u tk, (∀ b o, s.heap.get? b = some o → h'.get? b = some o) → Q (.str d.shown u) { s with heap := h', toks := tk }) :
    wpAny (model prog w) A (call (.builtin "repr") [.ref b]) Q E s := by
  cases r with
  | dict _ _ _ _ _ => simp [shw] at hs
  | list h1 h2 h3 h4 =>
    rename_i o vs n xs bs₀
    rw [PyData.shown] at hz
    simp only [PyData.shown] at hQ
    obtain ⟨bs, hb, hb2, hk⟩ := rkA_of (prog := prog) (w := w) hn h4 (by simpa [shw] using hs) (fun t ht => Nat.le_trans (listText_mem_le ht) hz)
    have r : Reads h₀ (.ref b) (.list xs) _ := .list h1 h2 h3 h4
    have dd : (PyData.list xs).depth = PyData.depthAll xs + 1 := by first | rfl | (simp only [PyData.depth]; done) | (simp only [PyData.depth]; omega)
    have hna : b ∉ bs := fun hm => by
      obtain ⟨e, as', r', le⟩ := hb2 b hm
      obtain ⟨q, _⟩ := reads_det (fun _ _ e _ => e) r r'
      rw [q, dd] at le
      omega
    rw [dd] at hu
    refine call_repr_slot (by omega) ⟨o, hk0 _ _ h1, h2⟩ F.slot_list_repr.toG ?_
    obtain ⟨l⟩ := vs
    cases l with
    | nil =>
      have h4' : ReadsAll h₀ [] xs _ := h4
      cases h4'
      simp only [PyData.shownAll, listText_nil] at hQ
      exact call_list_repr_empty ⟨o, hk0 _ _ h1, h2⟩ (hk0 _ _ h1) h3 ⟨_, _, rfl, hQ s.heap _ _ fun _ _ e => e⟩
    | cons x l =>
      exact call_list_reprK h1 h2 h3 hna (by simpa using hk.length_eq) (fun i y e => hk.item i y (by simpa using e)) hg (fun b _ => Clear.nil b) (by show A.units + 1 + _ < cLine; omega) hk0 (fun h' u tk hk => ⟨_, _, rfl, hQ h' u tk hk⟩) hz
  | tuple h1 h2 h3 h4 =>
    rename_i o vs n xs
    rw [PyData.shown] at hz
    simp only [PyData.shown] at hQ
    obtain ⟨bs, hb, hb2, hk⟩ := rkA_of (prog := prog) (w := w) hn h4 (by simpa [shw] using hs) (fun t ht => Nat.le_trans (tupleText_mem_le ht) hz)
    have r : Reads h₀ (.ref b) (.tuple xs) _ := .tuple h1 h2 h3 h4
    have dd : (PyData.tuple xs).depth = PyData.depthAll xs + 1 := by first | rfl | (simp only [PyData.depth]; done) | (simp only [PyData.depth]; omega)
    have hna : b ∉ bs := fun hm => by
      obtain ⟨e, as', r', le⟩ := hb2 b hm
      obtain ⟨q, _⟩ := reads_det (fun _ _ e _ => e) r r'
      rw [q, dd] at le
      omega
    rw [dd] at hu
    refine call_repr_slot (by omega) ⟨o, hk0 _ _ h1, h2⟩ F.slot_tuple_repr ?_
    exact call_tuple_reprK h1 h2 h3 hna hk hg (fun b _ => Clear.nil b) (by show A.units + 1 + _ < cLine; omega) hk0 (fun h' u tk hk => ⟨_, _, rfl, hQ h' u tk hk⟩) hz
end

section
variable {X : Cx} {K : PySem.W.Frag} {F H : Hp}
/-- repr of data without dicts -/
def rRepr (K : PySem.W.Frag) : List V → Hp → VK → Prop := fun vs H Q => ∃ v d, vs = [v] ∧ Dp K H v d ∧ shw d = true ∧ d.depth ≤ 60 ∧ d.shown.length ≤ sizeLine ∧ Q (.str d.shown) H
def bRepr : FN
  | [d], k => (noDict d = true ∧ shw d = true ∧ d.depth ≤ 60 ∧ d.shown.length ≤ sizeLine) ∧ k (.str d.shown)
  | _, _ => False
theorem ok_repr : BiOk K bRepr (rRepr K) := by
  intro F H vs xs k Q s d h c
  unfold bRepr at h
  split at h
  · obtain ⟨v, rfl, d1⟩ := d.one
    obtain ⟨⟨h1, h2, h3, h4⟩, h5⟩ := h
    exact ⟨v, _, rfl, (d1.df s).dp h1, h2, h3, h4, c _ _ F H h5 (Grow.refl s) (.str _)⟩
  · exact False.elim h
theorem call_repr {k : Nat} (hr : Room k X.A) (hgd : X.A.guards = some []) (hnd : X.base.NoDigits) : CallR X (.builtin "repr") (rRepr X.K) := by
  intro pins s σ H xs us Q I r ⟨v, d, ev, dp, hs, hd, hz, q⟩
  subst ev
  obtain ⟨u, rfl, ru⟩ := vals1 r
  have hu := hr.units
  have nd : s.heap.NoDigits := hnd.keeps I.bk
  obtain ⟨as, rd⟩ := Dp.reads I d v u dp ru
  have fin : ∀ (h' : Heap) (x : Tok) (tk : Nat), (∀ b o, s.heap.get? b = some o → h'.get? b = some o) → EP X pins σ Q (.str d.shown x) { s with heap := h', toks := tk } := fun h' x tk hk => ⟨.str d.shown, H, I.kept (t' := tk) hk, ⟨_, rfl⟩, q⟩
  cases rd with
  | none =>
    have z := fin s.heap s.toks (s.toks + 1) (fun _ _ e => e)
    rw [PyData.shown] at z
    exact call_repr_gives (typeIs_none s) F.slot_NoneType_repr F.entry_NoneType_repr (F.args_NoneType_repr_1 _) gives_none_repr z (hx := by decide)
  | bool b =>
    have z := fin s.heap s.toks (s.toks + 1) (fun _ _ e => e)
    rw [PyData.shown] at z
    exact call_repr_gives (PySem.typeIs_bool s b) F.slot_bool_repr F.entry_bool_repr (F.args_bool_repr_1 _) (gives_bool_repr b) z (hx := by cases b <;> decide)
  | str x t =>
    have z := fin s.heap s.toks (s.toks + 1) (fun _ _ e => e)
    rw [PyData.shown] at z hz
    exact call_repr_gives (typeIs_str s x t) F.slot_str_repr F.entry_str_repr (F.args_str_repr_1 _) (gives_str_repr x t) z (hx := hz)
  | int i t =>
    refine call_repr_slot (by omega) (typeIs_int s i t) F.slot_int_repr.toG (intCallW nd (by simpa [shw] using hs) ⟨_, _, rfl, ?_⟩)
    have := fin s.heap s.toks (s.toks + 1) (fun _ _ e => e)
    rw [PyData.shown] at this; exact this
  | list h1 h2 h3 h4 => exact reprW nd (.list h1 h2 h3 h4) hs hz hgd (by omega) (fun _ _ e => e) fin
  | tuple h1 h2 h3 h4 => exact reprW nd (.tuple h1 h2 h3 h4) hs hz hgd (by omega) (fun _ _ e => e) fin
  | dict h1 h2 h3 h4 h5 => simp [shw] at hs
end
end DL
/-! The data layer, part k: more forms. -/
namespace DL
open PySem L2 PyProof.Rows

section
variable {G : Gm} {X : Cx} {K : PySem.W.Frag} {F F' H H' : Hp} {ρ : En} {σ : L2.St} {e e2 e3 : Expr} {es : List Expr} {pos : Pos} {r r' : R2} {f f' : F2} {oa ob oc : Op1} {ta tb tc : TD} {t u : TTd}
theorem tTest_of [Pn] {te : TE} (ht : ∀ Q, liftD K ta σ H Q → te σ H Q) {Q : Bool → Hp → Prop} (h : liftT K (tVal ta) σ H Q) : tTest te σ H Q := by
  obtain ⟨G, ρ, F, Q', R, q, c⟩ := h
  refine ht _ ⟨G, ρ, F, _, R, q, fun x ρ1 v H1 F1 h1 R1 s1 d => ?_⟩
  split at h1
  · cases d
    exact ⟨_, rfl, c _ _ _ _ h1 R1 s1⟩
  · exact False.elim h1
theorem LT.cmp [Pn] {op : CmpOp} (ho : OpR X (compareOp op) r) (hf : Op2Ok X.K f r) (ha : LO X e oa) (hb : LO X e2 ob) (hm : behindInMarks op e2 = false) : LT X (.Compare e [op] [e2] pos) (tVal (dBin f oa ob)) :=
  ⟨ptImp (pt_cmpR ho ha.p hb.p hm) fun _ _ _ h => tTest_of (fun _ z => tOp_of hf z) h⟩
theorem LT.chain [Pn] {op op' : CmpOp} {p p' : Int → Int → Bool} (ho : OpR X (compareOp op) (rI0 fun i j => .bl (p i j))) (ho' : OpR X (compareOp op') (rI0 fun i j => .bl (p' i j))) (ha : LO X e oa) (hb : LO X e2 ob) (hc : LO X e3 oc)
    (hm : lastMarks [op, op'] [e2, e3] = false := by with_unfolding_all rfl) : LT X (.Compare e [op, op'] [e2, e3] pos) (tVal (dChain p p' oa ob oc)) :=
  ⟨ptImp (pt_chain ho ho' ha.p hb.p hc.p hm) fun _ _ _ h => tTest_of (fun _ z => tChain_of z) h⟩
end
end DL
/-! The data layer, part m: facts about data. -/
namespace DL
open PySem L2 PyProof.Rows
theorem shpI (i : Int) : shp (.int i) := ⟨rfl, rfl⟩
theorem shpN : shp .none := ⟨rfl, rfl⟩
theorem shpB (b : Bool) : shp (.bool b) := ⟨rfl, rfl⟩
theorem noDictA_map : ∀ xs : List PD, noDictA xs = xs.all noDict
  | [] => rfl
  | x :: r => by rw [noDictA, noDictA_map r]; rfl
theorem canLayAll_map : ∀ xs : List PD, PyData.canLayAll0 xs = xs.all PyData.canLay0
  | [] => rfl
  | x :: r => by rw [PyData.canLayAll0, canLayAll_map r]; rfl
theorem shwA_map : ∀ xs : List PD, shwA xs = xs.all shw
  | [] => rfl
  | x :: r => by rw [shwA, shwA_map r]; rfl
theorem depthAll_le {n : Nat} : ∀ {xs : List PD}, (∀ x ∈ xs, x.depth ≤ n) → PyData.depthAll xs ≤ n
  | [], _ => Nat.zero_le _
  | x :: r, h => by
    have h1 := h x List.mem_cons_self
    have h2 := depthAll_le (xs := r) fun y hy => h y (List.mem_cons_of_mem _ hy)
    simp only [PyData.depthAll]
    exact Nat.max_le.mpr ⟨h1, h2⟩
/-- what may be compared, part by part -/
structure Shp (n : Nat) (d : PD) : Prop where
  cl : d.canLay0 = true
  nd : noDict d = true
  dp : d.depth ≤ n
theorem Shp.shp {n : Nat} {d : PD} (h : Shp n d) (hn : n ≤ 64 := by decide) : shp d := by
  refine ⟨?_, h.nd⟩
  have := h.dp
  simp [SeqAt.shaped, h.cl]
  omega
theorem Shp.mono {n m : Nat} {d : PD} (h : Shp n d) (hn : n ≤ m) : Shp m d := ⟨h.cl, h.nd, Nat.le_trans h.dp hn⟩
theorem Shp.list {n : Nat} {xs : List PD} (h : ∀ x ∈ xs, Shp n x) : Shp (n + 1) (.list xs) := by
  refine ⟨?_, ?_, ?_⟩
  · rw [PyData.canLay0, canLayAll_map, List.all_eq_true]; exact fun x hx => (h x hx).cl
  · rw [noDict, noDictA_map, List.all_eq_true]; exact fun x hx => (h x hx).nd
  · simp only [PyData.depth]; exact Nat.succ_le_succ (depthAll_le fun x hx => (h x hx).dp)
theorem Shp.tup {n : Nat} {xs : List PD} (h : ∀ x ∈ xs, Shp n x) : Shp (n + 1) (.tuple xs) := by
  refine ⟨?_, ?_, ?_⟩
  · rw [PyData.canLay0, canLayAll_map, List.all_eq_true]; exact fun x hx => (h x hx).cl
  · rw [noDict, noDictA_map, List.all_eq_true]; exact fun x hx => (h x hx).nd
  · simp only [PyData.depth]; exact Nat.succ_le_succ (depthAll_le fun x hx => (h x hx).dp)
theorem Shp.int {n : Nat} (i : Int) : Shp n (.int i) := ⟨rfl, rfl, Nat.zero_le _⟩
theorem Shp.str {n : Nat} {x : Str} (h : PyData.canLay0 (.str x) = true) : Shp n (.str x) := ⟨h, rfl, Nat.zero_le _⟩
theorem Shp.ints (ns : List Int) {n : Nat} : ∀ x ∈ ns.map PyData.int, Shp n x := fun x hx => by
  obtain ⟨i, _, rfl⟩ := List.mem_map.mp hx
  exact .int i
theorem eqv_nil (xs : List PD) : PyData.eqv (.list xs) (.list []) = xs.isEmpty := by
  cases xs <;> simp [PyData.eqv, PyData.eqvAll]
theorem atI_some {α : Type} {xs : List α} {i : Int} (h0 : 0 ≤ i) (h1 : i < xs.length) : ∃ x, atI xs i = some x ∧ xs[i.toNat]? = some x := by
  have hk : i.toNat < xs.length := by omega
  refine ⟨xs[i.toNat], ?_, List.getElem?_eq_getElem hk⟩
  have e : i = ((i.toNat : Nat) : Int) := by omega
  have := atI_nat (List.getElem?_eq_getElem hk)
  rw [← e] at this
  exact this
theorem log2_lt {i : Int} {k : Nat} (h : i.natAbs < 2 ^ k) (hk : 0 < k) : i.natAbs.log2 < k := by
  by_cases z : i.natAbs = 0
  · rw [z]; simpa using hk
  · exact (Nat.log2_lt z).mpr h
theorem mulOk (a b : Nat) {i j : Int} (h1 : i.natAbs < 2 ^ a) (h2 : j.natAbs < 2 ^ b) (h : a + b ≤ 1000000 := by decide) (h3 : 0 < a := by decide) (h4 : 0 < b := by decide) : IntMulOk i j := by
  refine CMulW.ok ?_
  have x := log2_lt h1 h3
  have y := log2_lt h2 h4
  unfold CMulW
  omega
theorem intBits_le {i : Int} {k : Nat} (h : i.natAbs < 2 ^ k) : Builtin.Int.intBits i ≤ k := by
  unfold Builtin.Int.intBits
  by_cases z : i = 0
  · subst z; simp
  · have zz : (i == 0) = false := by simpa using z
    rw [zz]
    have := (Nat.log2_lt (n := i.natAbs) (k := k) (by omega)).mpr h
    simp only [Bool.false_eq_true, if_false]
    omega
theorem powOk {i j : Int} {k m : Nat} (h : i.natAbs < 2 ^ k) (h0 : 0 ≤ j) (h1 : j ≤ m) (hb : k * m ≤ 2 ^ 27 := by decide) : CPowW i j := by
  refine ⟨h0, ?_⟩
  have a := intBits_le h
  have b : (Builtin.Int.intBits i : Int) * j ≤ (k : Int) * m := Int.mul_le_mul (by omega) h1 h0 (by omega)
  have c : ((k * m : Nat) : Int) ≤ ((2 ^ 27 : Nat) : Int) := Int.ofNat_le.mpr hb
  rw [Int.natCast_mul] at c
  exact Int.le_trans b (by simpa using c)
end DL
/-! The data layer, part n: displays of dicts, get. -/
namespace DL
open PySem L2 PyProof.Rows
def valP {κ : Type} [DecidableEq κ] : List (κ × PD) → κ → Option PD
  | [], _ => none
  | p :: r, k => if p.1 = k then some p.2 else valP r k
def hasP {κ : Type} [DecidableEq κ] (kvs : List (κ × PD)) (k : κ) : Bool := kvs.any fun p => decide (p.1 = k)
def putP {κ : Type} [DecidableEq κ] (kvs : List (κ × PD)) (k : κ) (x : PD) : List (κ × PD) := if hasP kvs k = true then kvs.map (fun p => if p.1 = k then (p.1, x) else p) else kvs ++ [(k, x)]
def mergeP {κ : Type} [DecidableEq κ] (kvs more : List (κ × PD)) : List (κ × PD) := more.foldl (fun acc p => putP acc p.1 p.2) kvs
section
variable {κ : Type} [DecidableEq κ] {K : PySem.W.Frag} {F F' : Hp} {us : List (κ × V)} {kvs : List (κ × PD)} {k : κ} {v : V} {x : PD}
theorem DKv.val (h : DKv K F us kvs) (k : κ) : (valV us k = none ∧ valP kvs k = none) ∨ ∃ v x, valV us k = some v ∧ valP kvs k = some x ∧ Df K F v x := by
  unfold DKv at h
  induction h with
  | nil => exact .inl ⟨rfl, rfl⟩
  | @cons p q ps qs a b ih =>
    by_cases e : p.1 = k
    · exact .inr ⟨p.2, q.2, valV_pos e, if_pos (a.1.symm.trans e), a.2⟩
    · rw [valV_neg e]
      have : valP (q :: qs) k = valP qs k := if_neg fun z => e (a.1.trans z)
      rw [this]; exact ih
theorem DKv.has (h : DKv K F us kvs) (k : κ) : (us.any fun p => decide (p.1 = k)) = hasP kvs k := by
  unfold DKv at h
  unfold hasP
  induction h with
  | nil => rfl
  | @cons p q ps qs a b ih => rw [List.any_cons, List.any_cons, ih, a.1]
theorem DKv.append (h : DKv K F us kvs) {us2 : List (κ × V)} {kvs2 : List (κ × PD)} (g : DKv K F us2 kvs2) : DKv K F (us ++ us2) (kvs ++ kvs2) := by
  unfold DKv at *
  induction h with
  | nil => exact g
  | cons a b ih => exact .cons a ih
theorem DKv.put (h : DKv K F us kvs) (d : Df K F v x) : DKv K F (putK us k v) (putP kvs k x) := by
  unfold putK putP
  rw [h.has k]
  split
  · rename_i hh
    clear hh
    unfold DKv at h ⊢
    induction h with
    | nil => exact .nil
    | @cons p q ps qs a b ih =>
      refine .cons ?_ ih
      dsimp only
      by_cases e : p.1 = k
      · rw [if_pos e, if_pos (a.1.symm.trans e)]; exact ⟨a.1, d⟩
      · rw [if_neg e, if_neg fun z => e (a.1.trans z)]; exact a
  · exact h.append (.cons ⟨rfl, d⟩ .nil)
theorem DKv.length (h : DKv K F us kvs) : us.length = kvs.length := by
  unfold DKv at h
  induction h with
  | nil => rfl
  | cons _ _ ih => rw [List.length_cons, List.length_cons, ih]
end
section
variable {G : Gm} {X : Cx} {K : PySem.W.Frag} {F F' H H' : Hp} {ρ : En} {σ : L2.St} {e e2 e3 o : Expr} {es : List Expr} {pos cpos apos : Pos} {oa ob oc : Op1} {ta tb tc : TD} {t u : TTd} {tf : TF} {v : V} {x : PD}
theorem DKv.merge {us : List (Key × V)} {kvs : List (Key × PD)} : ∀ {m : List (Key × V)} {n : List (Key × PD)}, DKv K F us kvs → DKv K F m n → DKv K F (mergeK us m) (mergeP kvs n) := by
  intro m n h g
  unfold DKv at g
  induction g generalizing us kvs with
  | nil => exact h
  | @cons p q ps qs a b ih =>
    have z : DKv K F (putK us p.1 p.2) (putP kvs q.1 q.2) := by rw [a.1]; exact h.put a.2
    exact ih z
def dVals : List TD → En → (List PD → En → Prop) → Prop
  | [], ρ, Q => Q [] ρ
  | t :: r, ρ, Q => t ρ fun x ρ1 => dVals r ρ1 fun xs ρ2 => Q (x :: xs) ρ2
def liftPr [Pn] (K : PySem.W.Frag) (ks : List Key) (ts : List TD) (σ : L2.St) (H : Hp) (Q : List (V × V) → Hp → Prop) : Prop := ∃ G ρ F Q', Rel K G ρ F σ H ∧ dVals ts ρ Q' ∧
  ∀ xs ρ' vs H' F', Q' xs ρ' → Rel K G ρ' F' σ H' → Same F F' → DfA K F' vs xs → vs.length = ks.length → Q ((ks.zip vs).map fun p => (kV p.1, p.2)) H'
structure LPr [Pn] (X : Cx) (pos : Pos) (keys : List (Option Expr)) (values : List Expr) (ks : List Key) (ts : List TD) : Prop where
  ex : ∃ trs, PPs X pos keys values trs ∧ ∀ σ H Q, liftPr X.K ks ts σ H Q → tPairs trs σ H Q
theorem LPr.nil [Pn] : LPr X pos [] [] [] [] := ⟨[], pps_nil, fun σ H Q ⟨G, ρ, F, Q', R, q, c⟩ => c [] ρ [] H F q R (Same.refl _) .nil rfl⟩
theorem LPr.cons [Pn] {ke : Expr} {k : Key} {tk : L2.TE} {ks : List (Option Expr)} {vs : List Expr} {kr : List Key} {ts : List TD} (hk : PE X ke tk) (hk2 : ∀ σ H Q, Q (kV k) H → tk σ H Q) (h : LD X e ta) (r : LPr X pos ks vs kr ts) : LPr X pos (some ke :: ks) (e :: vs) (k :: kr) (ta :: ts) := by
  obtain ⟨trs, p, w⟩ := r.ex
  refine ⟨_, pps_cons hk h.p p, fun σ H Q ⟨G, ρ, F, Q', R, q, c⟩ => hk2 _ _ _ ⟨G, ρ, F, _, R, q, fun x ρ1 v H1 F1 h1 R1 s1 d => w _ _ _ ⟨G, ρ1, F1, _, R1, h1, fun xs ρ2 us H2 F2 h2 R2 s2 d2 hl => ?_⟩⟩⟩
  exact c (x :: xs) ρ2 (v :: us) H2 F2 h2 R2 (s1.trans s2) (.cons (d.mono s2) d2) (by rw [List.length_cons, List.length_cons, hl])
theorem LPr.cs [Pn] {x : Str} {j : Nat} {p : Pos} {ks : List (Option Expr)} {vs : List Expr} {kr : List Key} {ts : List TD} (h : LD X e ta) (r : LPr X pos ks vs kr ts) : LPr X pos (some (.Constant (.str x) j p) :: ks) (e :: vs) (.inr x :: kr) (ta :: ts) :=
  LPr.cons pe_str (fun _ _ _ q => q) h r
theorem LPr.ci [Pn] {x : Int} {j : Nat} {p : Pos} {ks : List (Option Expr)} {vs : List Expr} {kr : List Key} {ts : List TD} (h : LD X e ta) (r : LPr X pos ks vs kr ts) : LPr X pos (some (.Constant (.int x) j p) :: ks) (e :: vs) (.inl x :: kr) (ta :: ts) :=
  LPr.cons pe_int (fun _ _ _ q => q) h r
theorem zip_kv {ks : List Key} {vs : List V} {xs : List PD} (d : DfA K F vs xs) : DKv K F (ks.zip vs) (ks.zip xs) := by
  induction ks generalizing vs xs with
  | nil => exact .nil
  | cons k r ih =>
    cases d with
    | nil => exact .nil
    | cons a b => exact .cons ⟨rfl, a⟩ (ih b)
/-- {k: e, ..}: an own dict -/
def fDict (ks : List Key) (ts : List TD) : TF := fun ρ Q => dVals ts ρ fun xs ρ1 => Q (.dk none (mergeP [] (ks.zip xs))) ρ1
theorem LF.dict [Pn] {keys : List (Option Expr)} {values : List Expr} {ks : List Key} {ts : List TD} (h : LPr X pos keys values ks ts) (hall : keys.all (·.isSome) = true) (hl : keys.length = values.length) (h0 : keys ≠ []) (h15 : keys.length ≤ 15) (h15' : ks.length ≤ 15) :
    LF X (.Dict keys values pos) (fDict ks ts) := by
  obtain ⟨trs, p, w⟩ := h.ex
  refine ⟨peImp (pe_disp p hall hl h0 h15) fun σ H Q ⟨G, ρ, F, Q', R, q, c⟩ p hp => w _ _ _ ?_⟩
  have R1 := R.grow (Grow.owned R.fh hp (.dK []))
  have h00 := R.h0 hp
  have nd : ∀ (j : Nat) (m : Lc), ρ[j]? = some (some m) → m.own = true → σ[j]? ≠ some (some (.ref p)) := fun j m e hm z => by
    obtain ⟨a, e1, nf, ow, ob, eo, _⟩ := R.at_ e hm
    rw [z] at e1
    have : p = a := by simpa using e1
    subst this
    rw [hp] at eo; cases eo
  have dio : p ∉ G.io := fun z => (R.ih p z).2 h00
  have Rp := R1.pin (R.fh.free hp) upd_same h00 nd (R.noN_free hp)
  refine ⟨_, ρ, F, _, Rp, q, fun xs ρ1 vs H1 F1 h1 R2 s1 d hn => ?_⟩
  obtain ⟨R3, f3, h3, n3⟩ := R2.unpin R.ok h00 (R.ff.free (R.fh.free hp)) dio
  refine ⟨h3, ks.zip vs, rfl, by rw [List.length_zip]; omega, ?_⟩
  have ok : DKv X.K F1 (mergeK [] (ks.zip vs)) (mergeP [] (ks.zip xs)) := DKv.merge .nil (zip_kv d)
  exact c _ _ _ _ _ h1 (R3.side f3 h00 n3 (R2.unpinN dio)) s1 ⟨p, rfl, rfl, ⟨f3, h00, _, upd_same, ok⟩, ⟨n3, R2.unpinN dio, .nil rfl⟩⟩
theorem LF.dict0 [Pn] : LF X (.Dict [] [] pos) (fun ρ Q => Q (.dk none []) ρ) := ⟨peImp pe_dnewK fun σ H Q ⟨G, ρ, F, Q', R, q, c⟩ p hp => by
  obtain ⟨R2, k⟩ := fresh_ok (l := .dk none []) (o := .dK []) R hp .nil rfl
  exact c _ _ _ _ _ q R2 (Same.refl _) k⟩
def keyP : PD → Option Key
  | .int i => some (.inl i)
  | .str s => some (.inr s)
  | _ => none
theorem keyP_v {y : PD} {k : Key} (h : keyP y = some k) {v : V} (d : Dr K F H v y) : v = kV k := by
  cases y <;> simp [keyP] at h
  · subst h; exact d.int
  · subst h; exact d.str
/-- {..}.get(k, z) -/
def dGetF (t : TF) (oa ob : Op1) : TD := fun ρ Q => t ρ fun l ρ1 => match l with
  | .dk none kvs => oa.run ρ1 fun a ρ2 => ob.run ρ2 fun b ρ3 => res1 ρ3 a fun y => resF ρ3 b fun z => ∃ k, keyP y = some k ∧ Q ((valP kvs k).getD z) ρ3
  | _ => False
theorem LD.getF [Pn] (hu : X.A.units + 1 < cLine) (h : LF X o tf) (ha : LO X e oa) (hb : LO X e2 ob) (m : M2 X o "get" apos e e2 cpos) : LD X (.Call (.Attribute o "get" apos) [e, e2] [] cpos) (dGetF tf oa ob) :=
  ⟨peImp (pe_dget2 hu h.p ha.p hb.p m) fun σ H Q ⟨G, ρ, F, Q', R, q, c⟩ => ⟨G, ρ, F, _, R, q, fun l ρ1 v H1 F1 h1 R1 s1 r1 => by
    split at h1
    · rename_i kvs
      obtain ⟨G', Rp, back⟩ := r1.keep R1
      obtain ⟨a, ev, _, ⟨nf, ow, ob', eo, ok⟩, _⟩ := r1
      cases ob' <;> first | exact False.elim ok | skip
      rename_i us
      refine ⟨a, ev, .inl ⟨us, .inl eo⟩, G', ρ1, F1, _, Rp, h1, fun x ρ2 w H2 F2 h2 R2 s2 ax => ⟨G', ρ2, F2, _, R2, h2, fun y ρ3 w2 H3 F3 h3 R3 s3 ay => ?_⟩⟩
      obtain ⟨R4, r4, _⟩ := back R3 (s2.trans s3)
      obtain ⟨y', h4, dx⟩ := res1_dr R4 (ax.mono s3) h3
      obtain ⟨z', h5, dz⟩ := resF_df R4 ay h4
      obtain ⟨k, hk, h6⟩ := h5
      obtain ⟨b, ev2, _, ⟨nf2, ow2, ob2, eo2, ok2⟩, _⟩ := r4
      have eab : a = b := by rw [ev] at ev2; exact V.ref.inj ev2
      subst eab
      cases ob2 <;> first | exact False.elim ok2 | skip
      rename_i us2
      have ok2 : DKv X.K F3 us2 kvs := ok2
      refine ⟨_, .inl ⟨us2, k, .inl eo2, keyP_v hk dx, rfl⟩, ?_⟩
      have s123 := s1.trans (s2.trans s3)
      rcases ok2.val k with ⟨e1, e2⟩ | ⟨v', x', e1, e2, d'⟩
      · rw [e1]; rw [e2] at h6
        exact c _ _ _ _ _ h6 R4 s123 dz
      · rw [e1]; rw [e2] at h6
        exact c _ _ _ _ _ h6 R4 s123 d'
    · exact False.elim h1⟩⟩
end
end DL
/-! The data layer, part o: list(range), defs that are not called. -/
namespace DL
open PySem L2 PyProof.Rows
section
variable {G : Gm} {X : Cx} {K : PySem.W.Frag} {F F' H H' : Hp} {ρ : En} {σ : L2.St} {e e2 e3 o : Expr} {es : List Expr} {pos p2 p p3 : Pos} {oa ob oc : Op1} {ta tb tc : TD} {t u : TTd} {tf : TF} {v : V} {x : PD}
theorem rgV_df {a b : Int} : DfA K F (rgV a b) (rngD a (b - a).toNat) := by
  unfold rgV rngD
  generalize List.range (b - a).toNat = l
  induction l with
  | nil => exact .nil
  | cons i r ih => exact .cons (.int _) ih
def fLR1 (oa : Op1) : TF := fun ρ Q => oa.run ρ fun a ρ1 => res1 ρ1 a fun y => match y with
  | .int n => RgOk 0 n ∧ Q (.ls none (rngD 0 (n - 0).toNat)) ρ1
  | _ => False
theorem LF.lr1 [Pn] (hc : X.calm = true) (hg : Gl X "list") (hm : X.mg "list" = none) (hg2 : Gl X "range") (hm2 : X.mg "range" = none) (ha : LO X e oa)
    (na : starEach [.Call (.Name "range" p) [e] [] p2] X.env = (false, eval (.Call (.Name "range" p) [e] [] p2) X.env) :: starEach [] X.env := by rfl) (nb : starEach [e] X.env = (false, eval e X.env) :: starEach [] X.env := by rfl) :
    LF X (.Call (.Name "list" p3) [.Call (.Name "range" p) [e] [] p2] [] pos) (fLR1 oa) :=
  ⟨peImp (pe_listRg hc hg hm (prg_1 hg2 hm2 ha.p nb) na) fun σ H Q ⟨G, ρ, F, Q', R, q, c⟩ => ⟨G, ρ, F, _, R, q, fun a ρ1 v H1 F1 h1 R1 s1 av => by
    obtain ⟨y, h2, d⟩ := res1_dr R1 av h1
    split at h2
    · rename_i n
      rw [d.int]
      refine ⟨n, rfl, h2.1, fun q hq => ?_⟩
      obtain ⟨R2, k⟩ := fresh_ok (l := .ls none (rngD 0 (n - 0).toNat)) (o := .lst (rgV 0 n)) R1 hq rgV_df rfl
      exact c _ _ _ _ _ h2.2 R2 s1 k
    · exact False.elim h2⟩⟩
def fLR2 (oa ob : Op1) : TF := fun ρ Q => oa.run ρ fun a ρ1 => ob.run ρ1 fun b ρ2 => res1 ρ2 a fun y => res1 ρ2 b fun z => match y, z with
  | .int m, .int n => RgOk m n ∧ Q (.ls none (rngD m (n - m).toNat)) ρ2
  | _, _ => False
theorem LF.lr2 [Pn] (hc : X.calm = true) (hg : Gl X "list") (hm : X.mg "list" = none) (hg2 : Gl X "range") (hm2 : X.mg "range" = none) (ha : LO X e oa) (hb : LO X e2 ob)
    (na : starEach [.Call (.Name "range" p) [e, e2] [] p2] X.env = (false, eval (.Call (.Name "range" p) [e, e2] [] p2) X.env) :: starEach [] X.env := by rfl) (nb : starEach [e, e2] X.env = (false, eval e X.env) :: starEach [e2] X.env := by rfl)
    (nc : starEach [e2] X.env = (false, eval e2 X.env) :: starEach [] X.env := by rfl) (nd : (backTo p2 (starEach [e2] X.env)).any (·.1) = false := by rfl) :
    LF X (.Call (.Name "list" p3) [.Call (.Name "range" p) [e, e2] [] p2] [] pos) (fLR2 oa ob) :=
  ⟨peImp (pe_listRg hc hg hm (prg_2 hg2 hm2 ha.p hb.p nb nc nd) na) fun σ H Q ⟨G, ρ, F, Q', R, q, c⟩ => ⟨G, ρ, F, _, R, q, fun a ρ1 v H1 F1 h1 R1 s1 av => ⟨G, ρ1, F1, _, R1, h1, fun b ρ2 v2 H2 F2 h2 R2 s2 bv => by
    obtain ⟨y, h3, d⟩ := res1_dr R2 (av.mono s2) h2
    obtain ⟨z, h4, d2⟩ := res1_dr R2 bv h3
    split at h4
    · rename_i m n
      rw [d.int, d2.int]
      refine ⟨m, n, rfl, rfl, h4.1, fun q hq => ?_⟩
      obtain ⟨R3, k⟩ := fresh_ok (l := .ls none (rngD m (n - m).toNat)) (o := .lst (rgV m n)) R2 hq rgV_df rfl
      exact c _ _ _ _ _ h4.2 R3 (s1.trans s2) k
    · exact False.elim h4⟩⟩⟩
end
section
variable {P : Program} {w : World} {K : PySem.W.Frag} {mg : Str → Option Value} {base : Heap} {k : Nat} {n : Str} {X : Cx} {p pos : Pos} {S : FSpec}
/-- a call without arguments -/
theorem LF.cal0 [Pn] (C : Cal X.prog X.w X.K X.mg X.base k n [] S) (hr : Room k X.A) (hgd : X.A.guards = some []) (hg : Gl X n) (hdb : (n == ("__debug__" : Str)) = false := by decide) : LF X (.Call (.Name n p) [] [] pos) (fCall S aNil) := by
  obtain ⟨f, fd, h1, h2, h3, h4⟩ := C.ex
  have pe : PE X (.Call (.Name n p) [] [] pos) (tCall (liftC X.K S) [] E0 tNil) := ⟨fun pins s σ H Q I h =>
    wpAny_Call_Name_kw (ld_glob I hg h2 (PySem.W.callWith_K0 I.kIn h3 (runG (us := []) h1 hr hgd h4 .nil pass0 I .nil h)) hdb)⟩
  refine ⟨peImp pe fun σ H Q h => ?_⟩
  obtain ⟨G, ρ, F, Q', R, q, c⟩ := tCall_of (m := 0) h
  exact c _ _ _ H F q rfl R (Same.refl _) .nil
end
theorem pO [Pn] {X : Cx} {e : Expr} {t : Op1} (h : LO X e t) : PE X e (liftO X.K t) := h.p
theorem pD [Pn] {X : Cx} {e : Expr} {t : TD} (h : LD X e t) : PE X e (liftD X.K t) := h.p
theorem pT [Pn] {X : Cx} {e : Expr} {t : TTd} (h : LT X e t) : PT X e (liftT X.K t) := h.p
/-- nothing is asked of a def of which nothing is promised -/
theorem Cal.vac {P : Program} {w : World} {K : PySem.W.Frag} {mg : Str → Option Value} {base : Heap} {k : Nat} {n : Str} {st : Stmt} {ps : List Str} {S : FSpec} (D : Dn K mg n st ps) (no : ∀ args Q, ¬ S.sp args Q) : Cal P w K mg base k n ps S := by
  obtain ⟨f, fd, h1, h2, h3⟩ := D.ex
  have no' : ∀ vs H Q E, ¬ liftC K S vs H Q E := fun vs H Q E h => by
    obtain ⟨args, F, ios, n, Qd, _, _, _, h, _⟩ := h
    exact no _ _ h
  exact ⟨f, fd, ⟨fun vs H Q E h => absurd h (no' vs H Q E), fun A outer s H args us vs Q E _ _ _ _ _ h => absurd h (no' vs H Q E)⟩, h2, h1.kp, h3⟩
end DL
/-! The data layer, part p: how long a repr is. -/
namespace DL
open PySem L2 PyProof.Rows
def lenS (z : Nat) : List Str → Nat
  | [] => 0
  | t :: r => t.length + 2 + lenS z r
theorem lenS_le {z : Nat} : ∀ {ts : List Str}, (∀ t ∈ ts, t.length ≤ z) → lenS z ts ≤ ts.length * (z + 2)
  | [], _ => by simp [lenS]
  | t :: r, h => by
    have h1 := h t List.mem_cons_self
    have h2 := lenS_le (ts := r) fun y hy => h y (List.mem_cons_of_mem _ hy)
    rw [lenS, List.length_cons, Nat.add_mul, Nat.one_mul]
    omega
theorem textFrom_le (z : Nat) : ∀ (ts : List Str) (k : Nat) (acc : Str), (textFrom k acc ts).length ≤ acc.length + lenS z ts
  | [], k, acc => by show acc.length ≤ _; omega
  | t :: r, k, acc => by
    have h := textFrom_le z r (k + 1) (acc ++ (if k > 0 then ", " else "" : String) ++ t)
    have e : textFrom k acc (t :: r) = textFrom (k + 1) (acc ++ (if k > 0 then ", " else "" : String) ++ t) r := rfl
    rw [e]
    rw [strLen_append, strLen_append] at h
    have : (Str.ofString (if k > 0 then ", " else "" : String)).length ≤ 2 := by split <;> decide
    rw [lenS]
    omega
theorem listText_le (z : Nat) (ts : List Str) : (listText ts).length ≤ 2 + lenS z ts := by
  have h := textFrom_le z ts 0 "["
  have e : (listText ts).length = (textFrom 0 "[" ts).length + 1 := by
    show (textFrom 0 "[" ts ++ "]").length = _
    rw [strLen_append]; rfl
  have : (Str.ofString "[").length = 1 := by decide
  omega
theorem join_le (z : Nat) : ∀ ts : List Str, (Str.join ", " ts).length ≤ lenS z ts
  | [] => by show 0 ≤ _; exact Nat.zero_le _
  | [x] => by show x.length ≤ x.length + 2 + 0; omega
  | x :: y :: r => by
    have h := join_le z (y :: r)
    have e : Str.join ", " (x :: y :: r) = x ++ ", " ++ Str.join ", " (y :: r) := rfl
    rw [e, strLen_append, strLen_append, lenS]
    have : (Str.ofString ", ").length = 2 := by decide
    omega
theorem tupleText_le (z : Nat) (ts : List Str) : (tupleText ts).length ≤ 3 + lenS z ts := by
  have h := join_le z ts
  unfold tupleText
  rw [strLen_append, strLen_append]
  have : (Str.ofString (if ts.length == 1 then ",)" else ")" : String)).length ≤ 2 := by split <;> decide
  have : (Str.ofString "(").length = 1 := by decide
  omega
/-- what repr shows: of a depth of at most n, of at most z signs -/
structure Shw (n z : Nat) (d : PD) : Prop where
  nd : noDict d = true
  sh : shw d = true
  dp : d.depth ≤ n
  ln : d.shown.length ≤ z
theorem Shw.mono {n n' z z' : Nat} {d : PD} (h : Shw n z d) (h1 : n ≤ n') (h2 : z ≤ z') : Shw n' z' d := ⟨h.nd, h.sh, Nat.le_trans h.dp h1, Nat.le_trans h.ln h2⟩
/-- .. within the bounds of repr -/
theorem Shw.ok {n z : Nat} {d : PD} (h : Shw n z d) (h1 : n ≤ 60 := by decide) (h2 : z ≤ 16777216 := by decide) : noDict d = true ∧ shw d = true ∧ d.depth ≤ 60 ∧ d.shown.length ≤ sizeLine :=
  ⟨h.nd, h.sh, Nat.le_trans h.dp h1, by rw [sizeLine_eq]; exact Nat.le_trans h.ln h2⟩
theorem shownAll_map : ∀ xs : List PD, PyData.shownAll xs = xs.map PyData.shown
  | [] => rfl
  | x :: r => by rw [PyData.shownAll, shownAll_map r]; rfl
theorem Shw.int {n k : Nat} {i : Int} (h : i.natAbs < 2 ^ k) (hk : k ≤ 14000 := by decide) (h0 : 0 < k := by decide) : Shw n (k + 1) (.int i) := by
  refine ⟨rfl, ?_, Nat.zero_le _, ?_⟩
  · have z : (2 : Nat) ^ 14000 ≤ 10 ^ 4300 := by decide +kernel
    have : i.natAbs < 10 ^ 4300 := Nat.lt_of_lt_of_le h (Nat.le_trans (Nat.pow_le_pow_right (by decide) hk) z)
    exact decide_eq_true this
  · have := int_text_length_le h0 (log2_lt h h0)
    rw [PyData.shown, PySem.ofString_length]
    exact this
theorem Shw.non {n : Nat} : Shw n 4 .none := ⟨rfl, rfl, Nat.zero_le _, by rw [PyData.shown]; decide⟩
theorem Shw.bl {n : Nat} (b : Bool) : Shw n 5 (.bool b) := ⟨rfl, rfl, Nat.zero_le _, by rw [PyData.shown]; cases b <;> decide⟩
theorem Shw.str {n z : Nat} {x : Str} (h : (reprText x).length ≤ z) : Shw n z (.str x) := ⟨rfl, rfl, Nat.zero_le _, by rw [PyData.shown]; exact h⟩
theorem Shw.list {n z : Nat} {xs : List PD} (h : ∀ x ∈ xs, Shw n z x) : Shw (n + 1) (2 + xs.length * (z + 2)) (.list xs) := by
  refine ⟨?_, ?_, ?_, ?_⟩
  · rw [noDict, noDictA_map, List.all_eq_true]; exact fun x hx => (h x hx).nd
  · rw [shw, shwA_map, List.all_eq_true]; exact fun x hx => (h x hx).sh
  · simp only [PyData.depth]; exact Nat.succ_le_succ (depthAll_le fun x hx => (h x hx).dp)
  · rw [PyData.shown, shownAll_map]
    have a := listText_le z (xs.map PyData.shown)
    have b := lenS_le (z := z) (ts := xs.map PyData.shown) fun t ht => by
      obtain ⟨x, hx, rfl⟩ := List.mem_map.mp ht
      exact (h x hx).ln
    rw [List.length_map] at b
    omega
theorem Shw.tup {n z : Nat} {xs : List PD} (h : ∀ x ∈ xs, Shw n z x) : Shw (n + 1) (3 + xs.length * (z + 2)) (.tuple xs) := by
  refine ⟨?_, ?_, ?_, ?_⟩
  · rw [noDict, noDictA_map, List.all_eq_true]; exact fun x hx => (h x hx).nd
  · rw [shw, shwA_map, List.all_eq_true]; exact fun x hx => (h x hx).sh
  · simp only [PyData.depth]; exact Nat.succ_le_succ (depthAll_le fun x hx => (h x hx).dp)
  · rw [PyData.shown, shownAll_map]
    have a := tupleText_le z (xs.map PyData.shown)
    have b := lenS_le (z := z) (ts := xs.map PyData.shown) fun t ht => by
      obtain ⟨x, hx, rfl⟩ := List.mem_map.mp ht
      exact (h x hx).ln
    rw [List.length_map] at b
    omega
end DL
/-! The data layer, part q: three names at once. -/
namespace DL
open PySem L2 PyProof.Rows
section
variable {X : Cx} {e e2 e3 : Expr} {pos : Pos} {ta tb tc : TD}
def sPar3 (i j l : Nat) (t u w : TD) : TSt := fun D ρ => t ρ fun x ρ1 => u ρ1 fun y ρ2 => w ρ2 fun z ρ3 => D.nx (((ρ3.set i (some (.d x))).set j (some (.d y))).set l (some (.d z)))
theorem LS.par3 [Pn] {i j l : Nat} {x y z : Str} {px py pz pt pt2 : Pos} {kt k2 : Nat} (hc : X.calm = true) (hN : X.N.Nodup) (hi : X.N[i]? = some x) (hj : X.N[j]? = some y) (hl : X.N[l]? = some z) (hij : i ≠ j) (hil : i ≠ l) (hjl : j ≠ l)
    (hx : X.env.scope.names.lookup x = some .local) (hy : X.env.scope.names.lookup y = some .local) (hz : X.env.scope.names.lookup z = some .local) (h1 : LD X e ta) (h2 : LD X e2 tb) (h3 : LD X e3 tc)
    (hw : swappedStores [.Tuple [.Name x px, .Name y py, .Name z pz] kt pt] (.Tuple [e, e2, e3] k2 pt2) X.env = pure (some [x, y, z]))
    (hs : swapsWithSole [.Tuple [.Name x px, .Name y py, .Name z pz] kt pt] (.Tuple [e, e2, e3] k2 pt2) pos.line X.env = pure false := by rfl)
    (g1 : starEach [e, e2, e3] X.env = (false, eval e X.env) :: starEach [e2, e3] X.env := by rfl) (g2 : starEach [e2, e3] X.env = (false, eval e2 X.env) :: starEach [e3] X.env := by rfl) (g3 : starEach [e3] X.env = (false, eval e3 X.env) :: starEach [] X.env := by rfl) :
    LS X (.Assign [.Tuple [.Name x px, .Name y py, .Name z pz] kt pt] (.Tuple [e, e2, e3] k2 pt2) pos) (sPar3 i j l ta tb tc) :=
  ⟨psImp (ps_par3 hc hN hi hj hl hij hil hjl hx hy hz (pa_cons h1.p (pa_cons h2.p (pa_cons h3.p pa_nil g3) g2) g1) hw hs) fun D σ H ⟨G, ρ, F, D', R, q, k⟩ =>
    ⟨G, ρ, F, _, R, q, fun x ρ1 v H1 F1 h1 R1 s1 d1 => ⟨G, ρ1, F1, _, R1, h1, fun y ρ2 w H2 F2 h2 R2 s2 d2 => ⟨G, ρ2, F2, _, R2, h2, fun z ρ3 u H3 F3 h3 R3 s3 d3 =>
      ⟨v, w, u, rfl, k.nx _ _ _ _ h3 (((R3.store_d i (d1.mono (s2.trans s3))).store_d j (d2.mono s3)).store_d l d3) (s1.trans (s2.trans s3))⟩⟩⟩⟩⟩
end
end DL
/-! The data layer, part r: a list's items into names. -/
namespace DL
open PySem L2 PyProof.Rows
section
variable {X : Cx} {e : Expr} {pos : Pos} {ta : TD}
def sUnl (is : List Nat) (t : TD) : TSt := fun D ρ => t ρ fun x ρ1 => match x with
  | .list xs => xs.length = is.length ∧ D.nx (setAll ρ1 is xs)
  | _ => False
theorem LS.unl [Pn] {tg : Expr} {is : List Nat} (hg : PG X tg (gUnl X.K is.length (gNames is))) (h : LD X e ta) (hs : swapsWithSole [tg] e pos.line X.env = pure false := by rfl) (hw : swappedStores [tg] e X.env = pure none := by rfl)
    (h1 : (assignEach [tg] X.env).map (·.2) = [assign tg X.env] := by rfl) : LS X (.Assign [tg] e pos) (sUnl is ta) := ⟨psImp (ps_asg h.p hg hs hw h1) fun D σ H ⟨G, ρ, F, D', R, q, k⟩ =>
  ⟨G, ρ, F, _, R, q, fun x ρ1 v H1 F1 h1 R1 s1 d => by
    cases d <;> first | exact False.elim h1 | skip
    rename_i a vs xs hq ds
    obtain ⟨h2, h3⟩ := h1
    exact ⟨a, vs, rfl, rdSq (rdM R1.fh hq), by rw [ds.length]; exact h2, names_go (fun i hi => hi) R1 ds h2 fun σ2 R2 _ => k.nx _ _ _ _ h3 R2 s1⟩⟩⟩
end
end DL
/-! The data layer, part s: a value of any depth among a tuple's items. -/
namespace DL
open PySem L2 PyProof.Rows
section
variable {X : Cx} {K : PySem.W.Frag} {F H : Hp}
/-- in, not in a tuple of items of a small depth -/
def cInT (neg : Bool) : F2 := fun x y k => shp x ∧ ∃ ys, y = .tuple ys ∧ shp (.tuple ys) ∧ PyData.depthAll ys ≤ 5 ∧ k (.bool (if neg then !(ys.any fun z => PyData.eqv z x) else ys.any fun z => PyData.eqv z x))
def rInT (K : PySem.W.Frag) (neg : Bool) : R2 := fun x y H Q => ∃ e es, (Dp K H x e ∧ SeqAt.shaped e = true) ∧ (Dp K H y (.tuple es) ∧ SeqAt.shaped (.tuple es) = true) ∧ PyData.depthAll es ≤ 5 ∧ Q (.bl (if neg then !(es.any fun z => PyData.eqv z e) else es.any fun z => PyData.eqv z e)) H
theorem op_inT (hu : X.A.units + 64 < cLine) : OpR X (compareOp .In) (rInT X.K false) := by
  rintro pins s σ H x y v u Q I rx ry ⟨e, es, ⟨p1, s1⟩, ⟨p2, s2⟩, hd, q⟩
  obtain ⟨ns, w1⟩ := Dp.reads I e x v p1 rx
  obtain ⟨ms, w2⟩ := Dp.reads I (.tuple es) y u p2 ry
  refine SeqAt.in_tuple_reads w2 w1 (SeqAt.canLay_of_shaped s2) (SeqAt.canLay_of_shaped s1) ?_ ⟨.bl _, H, I, rfl, q⟩
  have := Nat.min_le_left (PyData.depthAll es) e.depth
  omega
theorem op_notInT (hu : X.A.units + 64 < cLine) : OpR X (compareOp .NotIn) (rInT X.K true) := by
  rintro pins s σ H x y v u Q I rx ry ⟨e, es, ⟨p1, s1⟩, ⟨p2, s2⟩, hd, q⟩
  obtain ⟨ns, w1⟩ := Dp.reads I e x v p1 rx
  obtain ⟨ms, w2⟩ := Dp.reads I (.tuple es) y u p2 ry
  refine SeqAt.notIn_tuple_reads w2 w1 (SeqAt.canLay_of_shaped s2) (SeqAt.canLay_of_shaped s1) ?_ ⟨.bl _, H, I, rfl, q⟩
  have := Nat.min_le_left (PyData.depthAll es) e.depth
  omega
theorem ok_inT (neg : Bool) : Op2Ok K (cInT neg) (rInT K neg) := by
  rintro F H vx vy x y k Q s dx dy ⟨sx, ys, rfl, sy, hd, h⟩ c
  exact ⟨x, ys, ⟨(dx.df s).dp sx.2, sx.1⟩, ⟨(dy.df s).dp sy.2, sy.1⟩, hd, c _ _ F H h (Grow.refl s) (.bl _)⟩
end
end DL
/-! The data layer, part t: sorted pairs of ints. -/
namespace DL
open PySem L2 PyProof.Rows
abbrev P2 := Int × Int
def prI (p : P2) : PD := .tuple [.int p.1, .int p.2]
def lexLe (p q : P2) : Prop := p.1 < q.1 ∨ (p.1 = q.1 ∧ p.2 ≤ q.2)
section
variable {X : Cx} {K : PySem.W.Frag} {F H : Hp}
theorem dfa_perm {g : P2 → PD} {us ys : List V} (h : us.Perm ys) : ∀ {ps : List P2}, DfA K F us (ps.map g) → ∃ qs : List P2, qs.Perm ps ∧ DfA K F ys (qs.map g) := by
  induction h with
  | nil => exact fun {ps} d => ⟨ps, .refl _, d⟩
  | cons x _ ih =>
    intro ps d
    cases ps with
    | nil => cases d
    | cons p r =>
      cases d with
      | cons a b =>
        obtain ⟨qs, h1, h2⟩ := ih b
        exact ⟨p :: qs, h1.cons p, .cons a h2⟩
  | swap x y l =>
    intro ps d
    cases ps with
    | nil => cases d
    | cons p r =>
      cases d with
      | cons a b =>
        cases r with
        | nil => cases b
        | cons q r =>
          cases b with
          | cons b c => exact ⟨q :: p :: r, .swap p q r, .cons b (.cons a c)⟩
  | trans _ _ ih1 ih2 =>
    intro ps d
    obtain ⟨qs, h1, h2⟩ := ih1 d
    obtain ⟨rs, h3, h4⟩ := ih2 h2
    exact ⟨rs, h3.trans h1, h4⟩
theorem df_pair {x : V} {p : P2} (s : Same F H) (d : Df K F x (prI p)) : TupI K H x [p.1, p.2] := by
  cases d with
  | tup hq ds =>
    cases ds with
    | cons a b =>
      cases a
      cases b with
      | cons b c =>
        cases b
        cases c
        exact ⟨_, rfl, seqT s hq⟩
theorem pw_pairs {R : V → V → Prop} {P : P2 → Prop} (hR : ∀ x y p q, Df K F x (prI p) → Df K F y (prI q) → P p → P q → R x y → lexLe p q) : ∀ {ys : List V} {qs : List P2}, (∀ p ∈ qs, P p) → DfA K F ys (qs.map prI) → ys.Pairwise R → qs.Pairwise lexLe
  | _, [], _, _, _ => .nil
  | [], _ :: _, _, d, _ => by cases d
  | y :: ys, p :: qs, hP, d, h => by
    cases d with
    | cons a b =>
      cases h with
      | cons h1 h2 =>
        refine .cons (fun q hq => ?_) (pw_pairs hR (fun r hr => hP r (List.mem_cons_of_mem _ hr)) b h2)
        obtain ⟨i, hi⟩ := List.mem_iff_getElem?.mp hq
        obtain ⟨v, hv, dv⟩ := b.get (show (qs.map prI)[i]? = some (prI q) by rw [List.getElem?_map, hi]; rfl)
        exact hR _ _ _ _ a dv (hP p List.mem_cons_self) (hP q (List.mem_cons_of_mem _ hq)) (h1 v (List.mem_of_getElem? hv))
/-- sorted of a list of pairs of ints from 0 to less than B -/
def bSortP (B : Int) : FN
  | [.list xs], k => ∃ ps : List P2, xs = ps.map prI ∧ ps.length < 64 ∧ (∀ p ∈ ps, (0 ≤ p.1 ∧ p.1 < B) ∧ 0 ≤ p.2 ∧ p.2 < B) ∧ ∀ qs : List P2, qs.Perm ps → qs.Pairwise lexLe → k (.list (qs.map prI))
  | _, _ => False
theorem ok_sortP (B : Int) : BiOk K (bSortP B) (rSortU K 2 B) := by
  intro F H vs xs k Q s d h c
  unfold bSortP at h
  split at h
  · obtain ⟨v, rfl, d1⟩ := d.one
    obtain ⟨ps, rfl, h64, hb, h⟩ := h
    obtain ⟨a, us, rfl, q, d3⟩ := d1.lst s
    have bd : ∀ p ∈ ps, TS.Bd B [p.1, p.2] := fun p hp m hm => by
      simp only [List.mem_cons, List.not_mem_nil, or_false] at hm
      rcases hm with rfl | rfl
      · exact (hb p hp).1
      · exact (hb p hp).2
    refine ⟨a, us, rfl, rdSq q, by rw [d3.length, List.length_map]; exact h64, fun x hx => ?_, fun ys p hp hpw hf => ?_⟩
    · obtain ⟨i, hi⟩ := List.mem_iff_getElem?.mp hx
      obtain ⟨e, he, de⟩ := d3.get' hi
      rw [List.getElem?_map] at he
      obtain ⟨p, hp, rfl⟩ := Option.map_eq_some_iff.mp he
      exact ⟨[p.1, p.2], df_pair s de, rfl, bd p (List.mem_of_getElem? hp)⟩
    · obtain ⟨qs, hq, dq⟩ := dfa_perm hp.symm d3
      have hP : ∀ r ∈ qs, r ∈ ps := fun r hr => hq.mem_iff.mp hr
      have pw := pw_pairs (P := fun r => r ∈ ps) (fun x y p q dx dy h1 h2 hr => code_lex (bd p h1) (bd q h2) (hr _ _ (df_pair s dx) (df_pair s dy))) hP dq hpw
      have g := Grow.frozen s hf (.lst ys)
      exact c _ _ _ _ (h qs hq pw) g (.lst (.inl upd_same) (dq.mono g.ff))
  · exact False.elim h
end
end DL
/-! The data layer, part x: a text in a text. -/
namespace DL
open PySem L2 PyProof.Rows
section
variable {X : Cx} {K : PySem.W.Frag} {F H : Hp}
def cInS (neg : Bool) : F2
  | .str a, .str b, k => k (.bool (if neg then !(!(Builtin.Str.occurrences b a 0 b.length 1).isEmpty) else !(Builtin.Str.occurrences b a 0 b.length 1).isEmpty))
  | _, _, _ => False
theorem ok_inS : Op2Ok K (cInS false) (fun x y H Q => ∃ a b, x = .str a ∧ y = .str b ∧ Q (.bl (!(Builtin.Str.occurrences b a 0 b.length 1).isEmpty)) H) := by
  intro F H vx vy x y k Q s dx dy h c
  unfold cInS at h
  split at h
  · rw [dx.str, dy.str]
    exact ⟨_, _, rfl, rfl, c _ _ F H h (Grow.refl s) (.bl _)⟩
  · exact False.elim h
theorem ok_notInS : Op2Ok K (cInS true) (fun x y H Q => ∃ a b, x = .str a ∧ y = .str b ∧ Q (.bl (!(!(Builtin.Str.occurrences b a 0 b.length 1).isEmpty))) H) := by
  intro F H vx vy x y k Q s dx dy h c
  unfold cInS at h
  split at h
  · rw [dx.str, dy.str]
    exact ⟨_, _, rfl, rfl, c _ _ F H h (Grow.refl s) (.bl _)⟩
  · exact False.elim h
end
/-! ### the signs of a text -/
def cl (s : Str) : List Nat := s.cps.toList
theorem cl_app (s t : Str) : cl (s ++ t) = cl s ++ cl t := by
  show (s.cps ++ t.cps).toList = _
  simp [cl]
theorem cl_len (s : Str) : (cl s).length = s.length := by
  show s.cps.toList.length = s.cps.size
  simp
theorem sub_iff (x y : Str) (i : Nat) : Builtin.Str.subAt x y i = true ↔ ((cl x).drop i).take y.length = cl y := by
  unfold Builtin.Str.subAt cl
  rw [beq_iff_eq, ← Array.toList_inj, Array.toList_extract, List.extract_eq_take_drop]
  rw [show i + y.length - i = y.length by omega]
theorem occ_iff (x y : Str) : (!(Builtin.Str.occurrences x y 0 x.length 1).isEmpty) = true ↔ ∃ A B, cl x = A ++ (cl y ++ B) := by
  rw [StrLaws.found_iff]
  refine ⟨fun ⟨i, h1, h2⟩ => ?_, fun ⟨A, B, h⟩ => ?_⟩
  · rw [sub_iff] at h2
    refine ⟨(cl x).take i, ((cl x).drop i).drop y.length, ?_⟩
    rw [← h2, List.take_append_drop, List.take_append_drop]
  · have hl := congrArg List.length h
    rw [cl_len, List.length_append, List.length_append, cl_len] at hl
    refine ⟨A.length, by omega, ?_⟩
    rw [sub_iff, h, List.drop_left, ← cl_len y, List.take_left]
end DL
/-! The data layer, part m-e: instances: attributes stored in an own one, read off a frozen one. -/
namespace DL
open PySem L2 PyProof.Rows
section
variable {X : Cx} {K : PySem.W.Frag} {F H : Hp} {e o : Expr} {pos p2 : Pos} {ta : TD} {oa : Op1} {s : Nat} {C : Addr} {f : Str}
def putFP (f : Str) (x : PD) : List (Str × PD) → List (Str × PD)
  | [] => [(f, x)]
  | (g, y) :: r => if g = f then (f, x) :: r else (g, y) :: putFP f x r
theorem DKv.putF {v : V} {x : PD} (hx : Df K F v x) : ∀ {us : List (Str × V)} {fs : List (Str × PD)}, DKv K F us fs → DKv K F (L2.putF f v us) (putFP f x fs)
  | [], fs, h => by cases h; exact .cons ⟨rfl, hx⟩ .nil
  | (g, u) :: us, fs, h => by
    cases h with
    | @cons _ q _ r a b =>
      obtain ⟨g', y⟩ := q
      obtain ⟨a1, a2⟩ := a
      have a1 : g = g' := a1
      subst a1
      have ih := DKv.putF hx b
      unfold L2.putF putFP
      by_cases hg : g = f
      · rw [if_pos hg, if_pos hg]; exact .cons ⟨hg, hx⟩ b
      · rw [if_neg hg, if_neg hg]; exact .cons ⟨rfl, a2⟩ ih
/-- o.f = e, o an own instance -/
def sSetF (C : Addr) (s : Nat) (f : Str) (t : TD) : TSt := fun D ρ => t ρ fun x ρ1 => match ρ1[s]? with
  | some (some (.ob p B fs)) => B = C ∧ fs.length < 1000 ∧ D.nx (ρ1.set s (some (.ob p C (putFP f x fs))))
  | _ => False
theorem LS.setF [Pn] (hc : Cls X.K C) (hn : NoAttr X.K C f) (h : LD X e ta) (ho : PE X o (tVar s)) (hs : swapsWith e (some (.Attribute o f p2)) pos.line X.env = pure false := by rfl) : LS X (.Assign [.Attribute o f p2] e pos) (sSetF C s f ta) :=
  ⟨psImp (ps_fld ho h.p hs) fun D σ H ⟨G, ρ, F, D', R, q, k⟩ => ⟨G, ρ, F, _, R, q, fun x ρ1 v H1 F1 h1 R1 s1 d => by
    split at h1
    · rename_i p B fs er
      obtain ⟨rfl, hl, h2⟩ := h1
      obtain ⟨a, es, nf, ow, ob, eo, ok⟩ := R1.at_ er rfl
      cases ob <;> first | exact False.elim ok | skip
      rename_i B' dx us
      obtain ⟨rfl, ok⟩ := ok
      exact ⟨_, es, a, _, dx, us, rfl, eo, hc, hn, by rw [Paired.length ok]; exact hl, k.nx _ _ _ _ h2 (R1.write er rfl es (m := .ob p _ (putFP f x fs)) (o := .ins _ dx (L2.putF f v us)) ⟨rfl, DKv.putF d ok⟩ rfl) s1⟩
    · exact False.elim h1⟩⟩
def fldP : List (PD × PD) → Str → Option PD
  | [], _ => none
  | (.str k, y) :: r, f => if k = f then some y else fldP r f
  | _ :: r, f => fldP r f
theorem fld_df : ∀ {us : List (Str × V)} {es : List (PD × PD)}, DfF K F us es → ∀ {y : PD}, fldP es f = some y → ∃ v, us.lookup f = some v ∧ Df K F v y
  | [], es, h, y, e => by cases h; cases e
  | (k, u) :: us, es, h, y, e => by
    cases h with
    | @cons _ _ _ d ds a b =>
      by_cases hk : k = f
      · subst hk
        have e : (if k = k then some d else fldP ds k) = some y := e
        rw [if_pos rfl] at e
        cases e
        exact ⟨u, by simp [List.lookup], a⟩
      · have e : (if k = f then some d else fldP ds f) = some y := e
        rw [if_neg hk] at e
        obtain ⟨v, h1, h2⟩ := fld_df b e
        refine ⟨v, ?_, h2⟩
        have nb : (f == k) = false := beq_eq_false_iff_ne.mpr (Ne.symm hk)
        simp only [List.lookup, nb]
        exact h1
/-- x.f, x a frozen instance of the class at C -/
def dFld (C : Addr) (f : Str) (t : TD) : TD := fun ρ Q => t ρ fun x ρ1 => match x with
  | .dict ((.none, .int c) :: es) => c = (C : Int) ∧ ∃ y, fldP es f = some y ∧ Q y ρ1
  | _ => False
theorem ins_inv {v : V} {c : Int} {es : List (PD × PD)} (h : Df K F v (.dict ((.none, .int c) :: es))) : ∃ a B dx us, v = .ref a ∧ c = ((B : Nat) : Int) ∧ F a = some (.ins B dx us) ∧ DfF K F us es := by
  cases h with
  | dk h1 h2 =>
    exfalso
    rename_i a kvs
    cases kvs with
    | nil => cases h2
    | cons q r =>
      obtain ⟨k, u⟩ := q
      cases k with
      | inl i =>
        generalize hz : (PyData.none, PyData.int c) :: es = L at h2
        cases h2
        simp [keyD] at hz
      | inr t =>
        generalize hz : (PyData.none, PyData.int c) :: es = L at h2
        cases h2
        simp [keyD] at hz
  | ins h1 h2 => exact ⟨_, _, _, _, rfl, rfl, h1, h2⟩
theorem LD.fld [Pn] (hc : Cls X.K C) (hn : NoAttr X.K C f) (h : LD X e ta) (hb : attributeBase e f X.env (eval e X.env) = eval e X.env := by rfl) : LD X (.Attribute e f pos) (dFld C f ta) :=
  ⟨peImp (pe_fld h.p hb) fun σ H Q ⟨G, ρ, F, Q', R, q, c⟩ => ⟨G, ρ, F, _, R, q, fun x ρ1 v H1 F1 h1 R1 s1 d => by
    unfold dFld at *
    split at h1
    · rename_i c0 es
      obtain ⟨ec, y, hy, h2⟩ := h1
      obtain ⟨a, B, dx, us, rfl, eB, ea, df⟩ := ins_inv d
      have : B = C := by omega
      subst this
      obtain ⟨u, hu, du⟩ := fld_df df hy
      exact ⟨a, B, dx, us, u, rfl, R1.fh _ _ ea, hc, hn, hu, c _ _ _ _ _ h2 R1 s1 du⟩
    · exact False.elim h1⟩⟩
end
end DL
/-! The data layer, part m-f: a new instance by a call of its class. -/
namespace DL
open PySem L2 PyProof.Rows
section
variable {X : Cx} {K : PySem.W.Frag} {G : Gm} {ρ : En} {σ : L2.St} {F H : Hp} {l : Lc} {v : V} {C : Addr}
/-- one slot more, that holds a new thing -/
theorem Rel.more [Pn] (R : Rel K G ρ F σ H) (k : RsOk K G F H ρ σ l v) : Rel K G ((ρ ++ [none]).set ρ.length (some l)) F ((σ ++ [none]).set ρ.length (some v)) H := by
  have ln := R.len
  have low : ∀ {j : Nat} {m : Lc}, (ρ ++ [none])[j]? = some (some m) → ρ[j]? = some (some m) ∧ (σ ++ [none])[j]? = σ[j]? := fun {j m} e => by
    rcases Nat.lt_or_ge j ρ.length with h | h
    · rw [List.getElem?_append_left h] at e
      exact ⟨e, List.getElem?_append_left (by omega)⟩
    · rw [List.getElem?_append_right h] at e
      rcases Nat.eq_zero_or_pos (j - ρ.length) with z | z
      · rw [z] at e; cases e
      · rw [List.getElem?_eq_none (by simp; omega)] at e; cases e
  have R2 : Rel K G (ρ ++ [none]) F (σ ++ [none]) H := R.weak (by simp; exact ln) fun i m e => low e
  have k2 : RsOk K G F H (ρ ++ [none]) (σ ++ [none]) l v := by
    have fr : ∀ {a : Addr}, Frs K G F H ρ σ l a → Frs K G F H (ρ ++ [none]) (σ ++ [none]) l a := fun {a} n =>
      ⟨fun j m e hm q => n.hf j m (low e).1 hm (by rw [← (low e).2]; exact q), n.hn.sub fun j m e => (low e).1, fun b xs hb => ⟨(n.ns b xs hb).1, (n.ns b xs hb).2.1, fun j m e hm q => (n.ns b xs hb).2.2.1 j m (low e).1 hm (by rw [← (low e).2]; exact q), (n.ns b xs hb).2.2.2.sub fun j m e => (low e).1⟩⟩
    cases l with
    | d x => exact k
    | sc x => exact k
    | ls p xs => obtain ⟨a, e1, e2, z, n⟩ := k; exact ⟨a, e1, e2, z, fr n⟩
    | dk p xs => obtain ⟨a, e1, e2, z, n⟩ := k; exact ⟨a, e1, e2, z, fr n⟩
    | dt p xs => obtain ⟨a, e1, e2, z, n⟩ := k; exact ⟨a, e1, e2, z, fr n⟩
    | ob p B xs => obtain ⟨a, e1, e2, z, n⟩ := k; exact ⟨a, e1, e2, z, fr n⟩
    | nb p B xs ns => obtain ⟨a, e1, e2, z, n⟩ := k; exact ⟨a, e1, e2, z, fr n⟩
    | ln p xs => obtain ⟨a, e1, e2, z, n⟩ := k; exact ⟨a, e1, e2, z, fr n⟩
  exact R2.store ρ.length k2.slot.1 k2.slot.2 k2.slotN
def fMake (C : Addr) (S : FSpec) (dd : List PD) (tt : TAd) : TF := fun ρ Q => tt ρ fun as ρ1 => resFA ρ1 as fun xs =>
  S.sp (.ob (some 0) C [] :: (xs ++ dd).map .d) fun l outs => l = .d .none ∧ ∃ fs, outs = [.ob (some 0) C fs] ∧ Q (.ob none C fs) ρ1
theorem args_d {ios : List Addr} : ∀ {vs : List V} {xs : List PD}, DfA K F vs xs → ArgsOk K F H ios (xs.map .d) vs
  | [], [], _ => .nil
  | _ :: _, [], d => by cases d
  | [], _ :: _, d => by cases d
  | v :: vs, x :: xs, d => by
    cases d with
    | cons a b => exact .cons a (args_d b)
theorem tags_d (xs : List PD) : (xs.map Lc.d).filterMap Lc.tag = [] := by
  induction xs with
  | nil => rfl
  | cons x r ih => exact ih
theorem nio_d {C : Addr} {k : Nat} {b : Addr} {xs : List PD} (h : (k, b) ∈ nioOf (.ob (some 0) C [] :: xs.map .d)) : False := by
  obtain ⟨i, l, ys, e1, _, e3⟩ := nioOf_mem h
  cases i with
  | zero => simp at e1; subst e1; cases e3
  | succ i =>
    simp at e1
    obtain ⟨x, _, rfl⟩ := e1
    cases e3
theorem make_core [Pn] {S : FSpec} {Q : VK} {Q' : Lc → En → Prop} {xs : List PD} {vs : List V} {Qd : Lc → List Lc → Prop} (R1 : Rel K G ρ F σ H) (d : DfA K F vs xs) (h2 : S.sp (.ob (some 0) C [] :: xs.map .d) Qd)
    (hq : ∀ l outs, Qd l outs → l = .d .none ∧ ∃ m, m.own = true ∧ outs = [m] ∧ Q' (m.retag none) ρ) (c : ∀ l v H' F', Q' l ρ → Rel K G ρ F' σ H' → Same F F' → RsOk K G F' H' ρ σ l v → Q v H') :
    ∀ x dx, H x = none → H dx = none → dx ≠ x → liftC K S (.ref x :: vs) (upd (upd H dx (.own x)) x (.ins C dx [])) (fun v H2 => v = .non ∧ Q (.ref x) H2) E0 := by
  intro x dx hx hdx hne
  have Ra : Rel K G ρ F σ (upd H dx (.own x)) := R1.grow (Grow.owned R1.fh hdx _)
  have hx2 : (upd H dx (.own x)) x = none := by rw [upd_ne (Ne.symm hne)]; exact hx
  obtain ⟨Rb, kb⟩ := fresh_ok (l := .ob none C []) (o := .ins C dx []) Ra hx2 ⟨rfl, .nil⟩ rfl
  have fx : F x = none := R1.fh.free hx
  refine ⟨.ob (some 0) C [] :: xs.map .d, F, [x], 1, Qd, Rb.fh, .cons ⟨x, 0, rfl, rfl, rfl, fx, ⟨.ins C dx [], upd_same, ⟨rfl, .nil⟩⟩, fun b xs hb => by cases hb⟩ (args_d d), ⟨by simp, fun a ha => ?_, ?_, Nat.le_refl _, fun k b z => (nio_d z).elim, fun i j l m b zs ys e1 _ h1 _ => ?_⟩, h2, fun r outs v F' H' q' P => ?_⟩
  · rw [List.mem_singleton.mp ha, upd_same]; simp
  · show tags _ = List.range 1
    unfold tags
    rw [List.filterMap_cons]
    show 0 :: (xs.map Lc.d).filterMap Lc.tag = List.range 1
    rw [tags_d]
    rfl
  · exfalso
    cases i with
    | zero => simp at e1; subst e1; cases h1
    | succ i =>
      simp at e1
      obtain ⟨x, _, rfl⟩ := e1
      cases h1
  · obtain ⟨rfl, m, ho, rfl, q2⟩ := hq _ _ q'
    have hv : v = .non := by
      have : Df K F' v .none := P.rs
      cases this
      rfl
    refine ⟨hv, ?_⟩
    have Rc := Rb.more kb
    have ln := Rb.len
    have at1 : ((σ ++ [none]).set ρ.length (some (.ref x)))[ρ.length]? = some (some (V.ref x)) := by rw [List.getElem?_set_self (by simp; omega)]
    have at2 : ((ρ ++ [none]).set ρ.length (some (.ob none C [])))[ρ.length]? = some (some (Lc.ob none C [])) := by rw [List.getElem?_set_self (by simp)]
    obtain ⟨R2, _⟩ := Rc.call (is := [ρ.length]) (post := [x]) rfl (by simp) (fun j i e => by
      have : j = 0 ∧ i = ρ.length := by
        cases j with
        | zero => simp at e; exact ⟨rfl, e.symm⟩
        | succ j => simp at e
      obtain ⟨rfl, rfl⟩ := this
      exact ⟨x, _, rfl, at1, at2, rfl⟩) ⟨[], rfl, fun b hb => by cases hb⟩ (fun k b z => (nio_d z).elim) P
    have tg : tagAt ((ρ ++ [none]).set ρ.length (some (Lc.ob none C []))) ρ.length = none := by unfold tagAt; rw [at2]; rfl
    have e0 : putO ((ρ ++ [none]).set ρ.length (some (Lc.ob none C []))) ((ρ ++ [none]).set ρ.length (some (Lc.ob none C []))) [ρ.length] [m] = ((ρ ++ [none]).set ρ.length (some (Lc.ob none C []))).set ρ.length (some (m.retag none)) := by
      show ((ρ ++ [none]).set ρ.length (some (Lc.ob none C []))).set ρ.length (some (m.retag (tagAt _ ρ.length))) = _
      rw [tg]
    rw [e0] at R2
    have at3 : (((ρ ++ [none]).set ρ.length (some (Lc.ob none C []))).set ρ.length (some (m.retag none)))[ρ.length]? = some (some (m.retag none)) := by rw [List.getElem?_set_self (by simp)]
    have ho2 : (m.retag none).own = true := by rw [Lc.retag_own]; exact ho
    obtain ⟨a, ea, za⟩ := R2.at_ at3 ho2
    have eax : a = x := by rw [at1] at ea; simpa using ea.symm
    subst eax
    have low : ∀ (j : Nat) (n : Lc), ρ[j]? = some (some n) → (((ρ ++ [none]).set ρ.length (some (Lc.ob none C []))).set ρ.length (some (m.retag none)))[j]? = some (some n) ∧ σ[j]? = ((σ ++ [none]).set ρ.length (some (V.ref a)))[j]? := fun j n e => by
      have hj : j < ρ.length := (List.getElem?_eq_some_iff.mp e).1
      rw [List.getElem?_set_ne (by omega), List.getElem?_set_ne (by omega), List.getElem?_append_left hj, List.getElem?_set_ne (by omega), List.getElem?_append_left (by omega)]
      exact ⟨e, rfl⟩
    have R3 : Rel K G ρ F' σ H' := R2.weak ln low
    refine c _ _ _ _ q2 R3 P.ff ((RsOk.ref_own ho2).mpr ⟨a, rfl, Lc.retag_tag _ _ ho, za, ⟨fun j n e hm z => ?_, (R2.noN_at at3 ho2 at1).sub fun j n e => (low j n e).1, fun b ys hb => ?_⟩⟩)
    · have hj : j < ρ.length := (List.getElem?_eq_some_iff.mp e).1
      have lj := low j n e
      have := R2.ds j ρ.length n (m.retag none) (.ref a) lj.1 at3 hm ho2 (by rw [← lj.2]; exact z) at1
      omega
    · obtain ⟨n1, n2⟩ := R2.ns _ _ b ys at3 hb
      refine ⟨n1, fun z => (n2 _ _ at3).1 ho2 (by rw [at1, z]), fun j n e hm z => (n2 j n (low j n e).1).1 hm (by rw [← (low j n e).2]; exact z), fun j n zs e hz => ?_⟩
      have hj : j < ρ.length := (List.getElem?_eq_some_iff.mp e).1
      have := (n2 j n (low j n e).1).2 zs hz
      omega
theorem tMake_of [Pn] {S : FSpec} {tt : TAd} {n : Nat} {Q : VK} {dd : List PD} {dvs : List V} (hdd : ∀ F : Hp, DfA K F dvs dd) (h : liftF K (fMake C S dd tt) σ H Q) : tMake C (liftC K S) dvs E0 (liftA K n tt) σ H Q := by
  obtain ⟨G, ρ, F, Q', R, q, c⟩ := h
  refine ⟨G, ρ, F, _, R, q, fun as ρ1 vs H1 F1 h1 hl R1 s1 av => ?_⟩
  obtain ⟨xs, h2, d⟩ := resFA_df R1 av h1
  exact make_core R1 (d.append (hdd _)) h2 (fun l outs hq => by
    obtain ⟨h1, fs, h2, h3⟩ := hq
    exact ⟨h1, _, rfl, h2, h3⟩) fun l v H' F' hq R' s' r => c l ρ1 v H' F' hq R' (s1.trans s') r
/-- a new instance with own lists as attributes -/
def fMakeN (C : Addr) (S : FSpec) (dd : List PD) (tt : TAd) : TF := fun ρ Q => tt ρ fun as ρ1 => resFA ρ1 as fun xs =>
  S.sp (.ob (some 0) C [] :: (xs ++ dd).map .d) fun l outs => l = .d .none ∧ ∃ fs ns, outs = [.nb (some 0) C fs ns] ∧ Q (.nb none C fs ns) ρ1
theorem tMakeN_of [Pn] {S : FSpec} {tt : TAd} {n : Nat} {Q : VK} {dd : List PD} {dvs : List V} (hdd : ∀ F : Hp, DfA K F dvs dd) (h : liftF K (fMakeN C S dd tt) σ H Q) : tMake C (liftC K S) dvs E0 (liftA K n tt) σ H Q := by
  obtain ⟨G, ρ, F, Q', R, q, c⟩ := h
  refine ⟨G, ρ, F, _, R, q, fun as ρ1 vs H1 F1 h1 hl R1 s1 av => ?_⟩
  obtain ⟨xs, h2, d⟩ := resFA_df R1 av h1
  exact make_core R1 (d.append (hdd _)) h2 (fun l outs hq => by
    obtain ⟨h1, fs, ns, h2, h3⟩ := hq
    exact ⟨h1, _, rfl, h2, h3⟩) fun l v H' F' hq R' s' r => c l ρ1 v H' F' hq R' (s1.trans s') r
/-- __init__'s promise is kept where no repr is under way -/
theorem makeG {CX : CXT} {k : Nat} {f : Addr} {fd : FuncData} {ps : List Str} {sp : Sp} {E : XK} {pins : List (Addr × Obj)} {st : Shared} {Q : VK} {us ds : List Value} {vs dvs : List V} (M : Mk X.K C f) (Gd : FnG X.prog X.w X.K X.mg X.base CX k f fd ps sp) (hr : Room (k + 1) X.A) (hgd : X.A.guards = some [])
    (hb : Binds X.K fd ps ds) (hd : Vals dvs ds) (hx : Passes CX X E) (I : Inv X pins σ H st) (r : Vals vs us)
    (h : ∀ x dx, H x = none → H dx = none → dx ≠ x → sp (.ref x :: (vs ++ dvs)) (upd (upd H dx (.own x)) x (.ins C dx [])) (fun v H2 => v = .non ∧ Q (.ref x) H2) E) :
    wpAny (model X.prog X.w) X.A (call (.ref C) us) (EP X pins σ Q) X.xe st := by
  have want := h (st.heap.objs.size + 1) st.heap.objs.size (I.hok.fresh (Nat.le_succ _)) (I.hok.fresh (Nat.le_refl _)) (Nat.ne_of_lt (Nat.lt_succ_self _))
  have I2 := Inv.made (C := C) I
  have rr : Vals (V.ref (st.heap.objs.size + 1) :: (vs ++ dvs)) (Value.ref (st.heap.objs.size + 1) :: (us ++ ds)) := .cons rfl (r.append hd)
  have ln : (Value.ref (st.heap.objs.size + 1) :: us ++ ds).length = ps.length := rr.length.symm.trans (Gd.len _ _ _ _ want)
  have run := Gd.run _ X.stack _ _ ⟨Value.ref (st.heap.objs.size + 1) :: us, []⟩ (Value.ref (st.heap.objs.size + 1) :: (us ++ ds)) _ _ E (hr.make C us []) hgd (I2.env0.make C us []) (hb _ (Value.ref (st.heap.objs.size + 1) :: us) I2.kIn ln) rr want
  refine wpAny_call (make_map (f := f) I.kIn M.makes M.init (beq_iff_eq.mp M.fn) (codeAny_mono run fun res z hz => ?_))
  rcases res with err | fl
  · exact hx pins σ _ _ err z I2 hz
  · cases fl with
    | ret u =>
      obtain ⟨v, H', J, rv, ev, q⟩ := I2.after hz
      subst ev
      exact ⟨rv, ⟨.ref (st.heap.objs.size + 1), H', J, rfl, q⟩⟩
    | next => cases hz
    | brk => cases hz
    | cont => cases hz
theorem LF.make [Pn] {k : Nat} {f : Addr} {fd : FuncData} {ps : List Str} {S : FSpec} {n : Str} {p pos : Pos} {e : Expr} {es : List Expr} {tt : TAd} {dd : List PD} {dvs : List V} {ds : List Value} (M : Mk X.K C f) (Gd : FnG X.prog X.w X.K X.mg X.base CX0 k f fd ps (liftC X.K S)) (hr : Room (k + 1) X.A) (hgd : X.A.guards = some []) (hg : Gl X n) (hm : X.mg n = some (.ref C))
    (hb : Binds X.K fd ps ds) (hv : Vals dvs ds) (hdd : ∀ F : Hp, DfA X.K F dvs dd) (ha : LA X (e :: es) tt) (hdb : (n == ("__debug__" : Str)) = false := by decide) (he : starEach (e :: es) X.env = (false, eval e X.env) :: starEach es X.env := by rfl) (hpl : (backTo pos (starEach es X.env)).any (·.1) = false := by rfl) :
    LF X (.Call (.Name n p) (e :: es) [] pos) (fMake C S dd tt) :=
  ⟨peImp (t := tMake C (liftC X.K S) dvs E0 (liftA X.K (e :: es).length tt)) ⟨fun pins st σ H Q I h => wpAny_Call_Name_kw (ld_glob I hg hm (PySem.W.callWith_K (h₀ := X.base) I.ok.mod.kin M.kp (thn (ha.p.run pos pins st σ H _ I h) fun us s1 ⟨vs, H1, I1, r, q⟩ => ⟨I1.kIn, makeG M Gd hr hgd hb hv pass0 I1 r q⟩) he hpl) hdb)⟩ fun σ H Q h => tMake_of hdd h⟩
theorem LF.makeN [Pn] {k : Nat} {f : Addr} {fd : FuncData} {ps : List Str} {S : FSpec} {n : Str} {p pos : Pos} {e : Expr} {es : List Expr} {tt : TAd} {dd : List PD} {dvs : List V} {ds : List Value} (M : Mk X.K C f) (Gd : FnG X.prog X.w X.K X.mg X.base CX0 k f fd ps (liftC X.K S)) (hr : Room (k + 1) X.A) (hgd : X.A.guards = some []) (hg : Gl X n) (hm : X.mg n = some (.ref C))
    (hb : Binds X.K fd ps ds) (hv : Vals dvs ds) (hdd : ∀ F : Hp, DfA X.K F dvs dd) (ha : LA X (e :: es) tt) (hdb : (n == ("__debug__" : Str)) = false := by decide) (he : starEach (e :: es) X.env = (false, eval e X.env) :: starEach es X.env := by rfl) (hpl : (backTo pos (starEach es X.env)).any (·.1) = false := by rfl) :
    LF X (.Call (.Name n p) (e :: es) [] pos) (fMakeN C S dd tt) :=
  ⟨peImp (t := tMake C (liftC X.K S) dvs E0 (liftA X.K (e :: es).length tt)) ⟨fun pins st σ H Q I h => wpAny_Call_Name_kw (ld_glob I hg hm (PySem.W.callWith_K (h₀ := X.base) I.ok.mod.kin M.kp (thn (ha.p.run pos pins st σ H _ I h) fun us s1 ⟨vs, H1, I1, r, q⟩ => ⟨I1.kIn, makeG M Gd hr hgd hb hv pass0 I1 r q⟩) he hpl) hdb)⟩ fun σ H Q h => tMakeN_of hdd h⟩
end
end DL
/-! The data layer, part m-g: a method of a frozen instance. -/
namespace DL
open PySem L2 PyProof.Rows
section
variable {X : Cx} {K : PySem.W.Frag} {σ : L2.St} {F H : Hp} {C : Addr}
theorem fld_none : ∀ {us : List (Str × V)} {es : List (PD × PD)}, DfF K F us es → ∀ {f : Str}, fldP es f = none → us.lookup f = none
  | [], es, h, f, e => rfl
  | (k, u) :: us, es, h, f, e => by
    cases h with
    | @cons _ _ _ d ds a b =>
      by_cases hk : k = f
      · have e : (if k = f then some d else fldP ds f) = none := e
        rw [if_pos hk] at e
        cases e
      · have e : (if k = f then some d else fldP ds f) = none := e
        rw [if_neg hk] at e
        have nb : (f == k) = false := beq_eq_false_iff_ne.mpr (Ne.symm hk)
        simp only [List.lookup, nb]
        exact fld_none b e
/-- x.m(..), x a frozen instance of the class at C, the arguments frozen, too -/
def fMth (C : Addr) (m : Str) (S : FSpec) (t : TD) (tt : TAd) : TF := fun ρ Q => t ρ fun x ρ1 => match x with
  | .dict ((.none, .int c) :: es) => c = (C : Int) ∧ fldP es m = none ∧ tt ρ1 fun as ρ2 => resFA ρ2 as fun xs => S.sp (.d (.dict ((.none, .int c) :: es)) :: xs.map .d) fun l outs => outs = [] ∧ Q l ρ2
  | _ => False
theorem tags_none (xs : List PD) : tags (xs.map Lc.d) = [] := tags_d xs
theorem tMeth_of [Pn] {m : Str} {S : FSpec} {t : TD} {tt : TAd} {n : Nat} {Q : VK} (h : liftF K (fMth C m S t tt) σ H Q) : tMeth C m (liftC K S) [] E0 (liftD K t) (liftA K n tt) σ H Q := by
  obtain ⟨G, ρ, F, Q', R, q, c⟩ := h
  refine ⟨G, ρ, F, _, R, q, fun x ρ1 v H1 F1 h1 R1 s1 d => ?_⟩
  unfold fMth at *
  split at h1
  · rename_i c0 es
    obtain ⟨ec, hn, h2⟩ := h1
    obtain ⟨a, B, dx, us, rfl, eB, ea, df⟩ := ins_inv d
    have : B = C := by omega
    subst this
    refine ⟨a, dx, us, rfl, R1.fh _ _ ea, fld_none df hn, G, ρ1, F1, _, R1, h2, fun as ρ2 vs H2 F2 h3 hl R2 s2 av => ?_⟩
    obtain ⟨xs, h4, dv⟩ := resFA_df R2 av h3
    rw [List.append_nil]
    refine ⟨.d (.dict ((.none, .int c0) :: es)) :: xs.map .d, F2, [], 0, fun l outs => outs = [] ∧ Q' l ρ2, R2.fh, .cons (d.mono s2) (args_d dv), IoOk.ds (_ :: xs), h4, fun r outs v F' H' q' P => ?_⟩
    · obtain ⟨rfl, q2⟩ := q'
      obtain ⟨R3, r3⟩ := R2.call0 (xs := _ :: xs) P
      exact c _ _ _ _ _ q2 R3 ((s1.trans s2).trans P.ff) r3
  · exact False.elim h1
theorem LF.mth0 [Pn] {k : Nat} {f : Addr} {fd : FuncData} {ps : List Str} {S : FSpec} {m : Str} {apos pos : Pos} {o : Expr} {t : TD} {pl : Sem Bool} (hc : Cls X.K C) (hm : Meth X.K C m f) (Gd : FnG X.prog X.w X.K X.mg X.base CX0 k f fd ps (liftC X.K S)) (hr : Room k X.A) (hgd : X.A.guards = some [])
    (hb : Binds X.K fd ps []) (ho : LD X o t)
    (ht : eval (.Call (.Attribute o m apos) [] [] pos) X.env = (do
      let ov ← eval o X.env
      standAt apos.atName
      let (f, first) ← holding [ov] (getMethod ov m pl)
      callWith pos f first (backTo pos (starEach [] X.env)) (backToKw pos (keywordEach [] X.env))) := by rfl) :
    LF X (.Call (.Attribute o m apos) [] [] pos) (fMth C m S t aNil) :=
  ⟨peImp (t := tMeth C m (liftC X.K S) [] E0 (liftD X.K t) (liftA X.K 0 aNil)) ⟨fun pins st σ H Q I h => PySem.W.methodCall_KW (pl := pl) (thn (ho.p.run pins st σ H _ I h) fun u s1 ⟨x, H1, I1, rx, a, dx, fs, ex, ea, l, q⟩ => by
      subst ex
      obtain rfl : u = Value.ref a := rx
      refine getmeth_ok I1 ea hc hm l ?_
      obtain ⟨G, ρ, F, Q', R, hq, k⟩ := q
      have q2 := k [] ρ [] H1 F hq rfl R (Same.refl _) .nil
      exact PySem.W.callWith_K0 (first := [.ref a]) I1.kIn hm.kp (runG (us := [.ref a]) (vs := [.ref a]) Gd hr hgd hb .nil pass0 I1 (.cons rfl .nil) q2)) ht⟩ fun σ H Q h => tMeth_of h⟩
theorem LF.mth [Pn] {k : Nat} {f : Addr} {fd : FuncData} {ps : List Str} {S : FSpec} {m : Str} {apos pos : Pos} {o e : Expr} {es : List Expr} {t : TD} {tt : TAd} {pl : Sem Bool} (hc : Cls X.K C) (hm : Meth X.K C m f) (Gd : FnG X.prog X.w X.K X.mg X.base CX0 k f fd ps (liftC X.K S)) (hr : Room k X.A) (hgd : X.A.guards = some [])
    (hb : Binds X.K fd ps []) (ho : LD X o t) (ha : LA X (e :: es) tt)
    (ht : eval (.Call (.Attribute o m apos) (e :: es) [] pos) X.env = (do
      let ov ← eval o X.env
      standAt apos.atName
      let (f, first) ← holding [ov] (getMethod ov m pl)
      callWith pos f first (backTo pos (starEach (e :: es) X.env)) (backToKw pos (keywordEach [] X.env))) := by rfl)
    (he : starEach (e :: es) X.env = (false, eval e X.env) :: starEach es X.env := by rfl) (hpl : (backTo pos (starEach es X.env)).any (·.1) = false := by rfl) :
    LF X (.Call (.Attribute o m apos) (e :: es) [] pos) (fMth C m S t tt) :=
  ⟨peImp (t := tMeth C m (liftC X.K S) [] E0 (liftD X.K t) (liftA X.K (e :: es).length tt)) ⟨fun pins st σ H Q I h => PySem.W.methodCall_KW (pl := pl) (thn (ho.p.run pins st σ H _ I h) fun u s1 ⟨x, H1, I1, rx, a, dx, fs, ex, ea, l, q⟩ => by
      subst ex
      obtain rfl : u = Value.ref a := rx
      refine getmeth_ok I1 ea hc hm l ?_
      refine PySem.W.callWith_K (h₀ := X.base) (first := [.ref a]) I.ok.mod.kin hm.kp (thn (ha.p.run pos pins s1 σ H1 _ I1 q) fun us s2 ⟨vs, H2, I2, r, q2⟩ => ⟨I2.kIn, ?_⟩) he hpl
      have q3 : liftC X.K S (V.ref a :: (vs ++ [])) H2 Q E0 := q2
      exact runG (us := .ref a :: us) (vs := .ref a :: vs) Gd hr hgd hb .nil pass0 I2 (.cons rfl r) q3) ht⟩ fun σ H Q h => tMeth_of h⟩
end
end DL
/-! The data layer, part m-h: a frozen instance called. -/
namespace DL
open PySem L2 PyProof.Rows StX
section
variable {X : Cx} {K : PySem.W.Frag} {σ : L2.St} {F H : Hp} {C : Addr}
/-- f(e, ..), f a frozen instance of the class at C -/
def fInC (C : Addr) (S : FSpec) (t : TD) (tt : TAd) : TF := fun ρ Q => t ρ fun x ρ1 => match x with
  | .dict ((.none, .int c) :: es) => c = (C : Int) ∧ tt ρ1 fun as ρ2 => resFA ρ2 as fun xs => S.sp (.d (.dict ((.none, .int c) :: es)) :: xs.map .d) fun l outs => outs = [] ∧ Q l ρ2
  | _ => False
theorem tCallO_of [Pn] {S : FSpec} {t : TD} {tt : TAd} {n : Nat} {Q : VK} (h : liftF X.K (fInC C S t tt) σ H Q) : tCallO X C (liftC X.K S) E0 (liftD X.K t) (liftA X.K n tt) σ H Q := by
  obtain ⟨G, ρ, F, Q', R, q, c⟩ := h
  refine ⟨G, ρ, F, _, R, q, fun x ρ1 v H1 F1 h1 R1 s1 d => ?_⟩
  unfold fInC at *
  split at h1
  · rename_i c0 es
    obtain ⟨ec, h2⟩ := h1
    obtain ⟨a, B, dx, us, rfl, eB, ea, df⟩ := ins_inv d
    have : B = C := by omega
    subst this
    refine ⟨a, rfl, G, ρ1, F1, _, R1, h2, fun as ρ2 vs H2 F2 h3 hl R2 s2 av => ⟨.inr ⟨dx, us, R2.fh _ _ (s2 _ _ ea)⟩, ?_⟩⟩
    obtain ⟨xs, h4, dv⟩ := resFA_df R2 av h3
    refine ⟨.d (.dict ((.none, .int c0) :: es)) :: xs.map .d, F2, [], 0, fun l outs => outs = [] ∧ Q' l ρ2, R2.fh, .cons (d.mono s2) (args_d dv), IoOk.ds (_ :: xs), h4, fun r outs v F' H' q' P => ?_⟩
    · obtain ⟨rfl, q2⟩ := q'
      obtain ⟨R3, r3⟩ := R2.call0 (xs := _ :: xs) P
      exact c _ _ _ _ _ q2 R3 ((s1.trans s2).trans P.ff) r3
  · exact False.elim h1
theorem runGC {CX : CXT} {k : Nat} {f : Addr} {fd : FuncData} {ps : List Str} {sp : Sp} {E : XK} {pins : List (Addr × Obj)} {st : Shared} {Q : VK} {us : List Value} {vs : List V} (Gd : FnG X.prog X.w X.K X.mg X.base CX k f fd ps sp) (hr : Room k X.A) (hgd : X.A.guards = some []) (hb : Binds X.K fd ps []) (hx : Passes CX X E)
    (I : Inv X pins σ H st) (r : Vals vs us) (h : sp vs H Q E) : codeAny (model X.prog X.w) X.A (.call (.ref f) ⟨us, []⟩) (fun res s' => match res with
      | .ok (.ret v) => EP X pins σ Q v s'
      | .ok _ => False
      | .error e => X.xe e s') st := by
  have ll : us.length = ps.length := r.length.symm.trans (Gd.len _ _ _ _ h)
  have run := Gd.run X.A X.stack st H ⟨us, []⟩ us vs Q E hr hgd I.env0 (by have := hb st us I.kIn (by rw [List.append_nil]; exact ll); rw [List.append_nil] at this; exact this) r h
  refine codeAny_mono run fun res s' hq => ?_
  rcases res with e' | fl
  · exact hx pins σ H st e' s' I hq
  · cases fl <;> first | exact I.after hq | exact False.elim hq
theorem LF.inC [Pn] {k : Nat} {g : Addr} {fd : FuncData} {ps : List Str} {S : FSpec} {pos : Pos} {fe e : Expr} {es : List Expr} {t : TD} {tt : TAd} (co : CallO X.K C g) (Gd : FnG X.prog X.w X.K X.mg X.base CX0 k g fd ps (liftC X.K S)) (hr : Room k X.A) (hgd : X.A.guards = some [])
    (hb : Binds X.K fd ps []) (hf : LD X fe t) (ha : LA X (e :: es) tt)
    (ht : eval (.Call fe (e :: es) [] pos) X.env = (do callWith pos (← eval fe X.env) [] (backTo pos (starEach (e :: es) X.env)) (backToKw pos (keywordEach [] X.env))) := by rfl)
    (he : starEach (e :: es) X.env = (false, eval e X.env) :: starEach es X.env := by rfl) (hpl : (backTo pos (starEach es X.env)).any (·.1) = false := by rfl) : LF X (.Call fe (e :: es) [] pos) (fInC C S t tt) :=
  ⟨peImp (t := tCallO X C (liftC X.K S) E0 (liftD X.K t) (liftA X.K (e :: es).length tt)) ⟨fun pins st σ H Q I h => Call_ (thn (hf.p.run pins st σ H _ I h) fun u s1 ⟨y, H1, I1, ry, a, ey, q⟩ => by
      subst ey
      obtain rfl : u = Value.ref a := ry
      refine callO_with (thn (ha.p.run pos pins s1 σ H1 _ I1 q) fun us s2 ⟨vs, H2, I2, r, hi, q2⟩ => ?_) he hpl
      obtain ⟨ox, od, J, hd⟩ := insC_at I2 hi
      exact ⟨⟨C, ox, od, J, hd⟩, wpAny_call (PySem.W.kco_code I2.kIn J hd co.at_ co.fn co.fi (runGC (us := .ref a :: us) (vs := .ref a :: vs) Gd hr hgd hb pass0 I2 (.cons rfl r) q2))⟩) ht⟩ fun σ H Q h => tCallO_of h⟩
end
end DL
/-! The data layer, part m-i: the promises of a class's defs. -/
namespace DL
open PySem L2 PyProof.Rows StX
section
variable {X : Cx} {P : Program} {w : World} {K : PySem.W.Frag} {mg : Str → Option Value} {base : Heap} {j k : Nat} {C : Addr} {m qual n : Str} {ps : List Str} {S : FSpec} {st : Stmt}
/-- a def of a class's body, found in the class in the way R (as a method, as __init__, as __call__) -/
structure Dm (K : PySem.W.Frag) (R : Addr → Prop) (m qual : Str) (st : Stmt) (ps : List Str) : Prop where
  ex : ∃ f fd, FunX K m qual st f fd ∧ R f ∧ Binds K fd ps []
structure CalR (P : Program) (w : World) (K : PySem.W.Frag) (mg : Str → Option Value) (base : Heap) (k : Nat) (R : Addr → Prop) (ps : List Str) (S : FSpec) : Prop where
  ex : ∃ f fd, FnG P w K mg base CX0 k f fd ps (liftC K S) ∧ R f ∧ Binds K fd ps []
theorem CalR.mono {R : Addr → Prop} (h : CalR P w K mg base j R ps S) (hk : j ≤ k) : CalR P w K mg base k R ps S := by
  obtain ⟨f, fd, h1, h2⟩ := h.ex
  exact ⟨f, fd, h1.mono hk, h2⟩
theorem def_calR {R : Addr → Prop} {N : List Str} {ir : TSt} (D : Dm K R m qual st ps) (Sc : FnScope N ps (defScope st)) (len : ∀ args Q, S.sp args Q → args.length = ps.length)
    (hb : ∀ [Pn] (f : Addr) (cdv : Value) (A : Around) (outer : List PySem.Env) (s : Shared) (H : Hp) (E : XK), Room k (A.deeper (envOfC qual (defScope st) s.heap.objs.size f cdv)) → (A.deeper (envOfC qual (defScope st) s.heap.objs.size f cdv)).guards = some [] → LSs (cxOf CX0 P w K mg base N qual (defScope st) f cdv A outer s H E).nox (defBody st) ir)
    (hsp : ∀ args Q, S.sp args Q → ir (endsOf args Q) (rho0 N args)) : CalR P w K mg base (k + 1) R ps S := by
  obtain ⟨f, fd, h1, h2, h3⟩ := D.ex
  exact ⟨f, fd, def_okX h1 Sc len (hb f) hsp, h2, h3⟩
/-- the same of a def whose last parameters have the defaults dd -/
structure DmX (K : PySem.W.Frag) (R : Addr → Prop) (m qual : Str) (st : Stmt) (ps : List Str) (dd : List PD) : Prop where
  ex : ∃ f fd, FunX K m qual st f fd ∧ R f ∧ Binds K fd ps [] ∧ ∃ dvs ds, Vals dvs ds ∧ (∀ F : Hp, DfA K F dvs dd) ∧ Binds K fd ps ds
structure CalX (P : Program) (w : World) (K : PySem.W.Frag) (mg : Str → Option Value) (base : Heap) (k : Nat) (R : Addr → Prop) (ps : List Str) (S : FSpec) (dd : List PD) : Prop where
  ex : ∃ f fd, FnG P w K mg base CX0 k f fd ps (liftC K S) ∧ R f ∧ Binds K fd ps [] ∧ ∃ dvs ds, Vals dvs ds ∧ (∀ F : Hp, DfA K F dvs dd) ∧ Binds K fd ps ds
theorem CalX.toR {R : Addr → Prop} {dd : List PD} (h : CalX P w K mg base k R ps S dd) : CalR P w K mg base k R ps S := by
  obtain ⟨f, fd, h1, h2, h3, _⟩ := h.ex
  exact ⟨f, fd, h1, h2, h3⟩
theorem CalX.mono {R : Addr → Prop} {dd : List PD} (h : CalX P w K mg base j R ps S dd) (hk : j ≤ k) : CalX P w K mg base k R ps S dd := by
  obtain ⟨f, fd, h1, h2⟩ := h.ex
  exact ⟨f, fd, h1.mono hk, h2⟩
theorem def_calX {R : Addr → Prop} {N : List Str} {ir : TSt} {dd : List PD} (D : DmX K R m qual st ps dd) (Sc : FnScope N ps (defScope st)) (len : ∀ args Q, S.sp args Q → args.length = ps.length)
    (hb : ∀ [Pn] (f : Addr) (cdv : Value) (A : Around) (outer : List PySem.Env) (s : Shared) (H : Hp) (E : XK), Room k (A.deeper (envOfC qual (defScope st) s.heap.objs.size f cdv)) → (A.deeper (envOfC qual (defScope st) s.heap.objs.size f cdv)).guards = some [] → LSs (cxOf CX0 P w K mg base N qual (defScope st) f cdv A outer s H E).nox (defBody st) ir)
    (hsp : ∀ args Q, S.sp args Q → ir (endsOf args Q) (rho0 N args)) : CalX P w K mg base (k + 1) R ps S dd := by
  obtain ⟨f, fd, h1, h2⟩ := D.ex
  exact ⟨f, fd, def_okX h1 Sc len (hb f) hsp, h2⟩
/-- C(e, ..), the last parameters as they stand in the text -/
theorem LF.mkX [Pn] {p pos : Pos} {e : Expr} {es : List Expr} {tt : TAd} {dd : List PD} (c : CalX X.prog X.w X.K X.mg X.base k (Mk X.K C) ps S dd) (hr : Room (k + 1) X.A) (hgd : X.A.guards = some []) (hg : Gl X n) (hm : X.mg n = some (.ref C)) (ha : LA X (e :: es) tt)
    (hdb : (n == ("__debug__" : Str)) = false := by decide) (he : starEach (e :: es) X.env = (false, eval e X.env) :: starEach es X.env := by rfl) (hpl : (backTo pos (starEach es X.env)).any (·.1) = false := by rfl) :
    LF X (.Call (.Name n p) (e :: es) [] pos) (fMake C S dd tt) := by
  obtain ⟨f, fd, h1, h2, h3, dvs, ds, h4, h5, h6⟩ := c.ex
  exact LF.make h2 h1 hr hgd hg hm h6 h4 h5 ha hdb he hpl
/-- C(e, ..) -/
theorem LF.mkC [Pn] {p pos : Pos} {e : Expr} {es : List Expr} {tt : TAd} (c : CalR X.prog X.w X.K X.mg X.base k (Mk X.K C) ps S) (hr : Room (k + 1) X.A) (hgd : X.A.guards = some []) (hg : Gl X n) (hm : X.mg n = some (.ref C)) (ha : LA X (e :: es) tt)
    (hdb : (n == ("__debug__" : Str)) = false := by decide) (he : starEach (e :: es) X.env = (false, eval e X.env) :: starEach es X.env := by rfl) (hpl : (backTo pos (starEach es X.env)).any (·.1) = false := by rfl) :
    LF X (.Call (.Name n p) (e :: es) [] pos) (fMake C S [] tt) := by
  obtain ⟨f, fd, h1, h2, h3⟩ := c.ex
  exact LF.make h2 h1 hr hgd hg hm h3 .nil (fun _ => .nil) ha hdb he hpl
/-- x.m() -/
theorem LF.mthC0 [Pn] {apos pos : Pos} {o : Expr} {t : TD} {pl : Sem Bool} (hc : Cls X.K C) (c : CalR X.prog X.w X.K X.mg X.base k (Meth X.K C m) ps S) (hr : Room k X.A) (hgd : X.A.guards = some []) (ho : LD X o t)
    (ht : eval (.Call (.Attribute o m apos) [] [] pos) X.env = (do
      let ov ← eval o X.env
      standAt apos.atName
      let (f, first) ← holding [ov] (getMethod ov m pl)
      callWith pos f first (backTo pos (starEach [] X.env)) (backToKw pos (keywordEach [] X.env))) := by rfl) :
    LF X (.Call (.Attribute o m apos) [] [] pos) (fMth C m S t aNil) := by
  obtain ⟨f, fd, h1, h2, h3⟩ := c.ex
  exact LF.mth0 hc h2 h1 hr hgd h3 ho ht
/-- x.m(e, ..) -/
theorem LF.mthC [Pn] {apos pos : Pos} {o e : Expr} {es : List Expr} {t : TD} {tt : TAd} {pl : Sem Bool} (hc : Cls X.K C) (c : CalR X.prog X.w X.K X.mg X.base k (Meth X.K C m) ps S) (hr : Room k X.A) (hgd : X.A.guards = some []) (ho : LD X o t) (ha : LA X (e :: es) tt)
    (ht : eval (.Call (.Attribute o m apos) (e :: es) [] pos) X.env = (do
      let ov ← eval o X.env
      standAt apos.atName
      let (f, first) ← holding [ov] (getMethod ov m pl)
      callWith pos f first (backTo pos (starEach (e :: es) X.env)) (backToKw pos (keywordEach [] X.env))) := by rfl)
    (he : starEach (e :: es) X.env = (false, eval e X.env) :: starEach es X.env := by rfl) (hpl : (backTo pos (starEach es X.env)).any (·.1) = false := by rfl) :
    LF X (.Call (.Attribute o m apos) (e :: es) [] pos) (fMth C m S t tt) := by
  obtain ⟨f, fd, h1, h2, h3⟩ := c.ex
  exact LF.mth hc h2 h1 hr hgd h3 ho ha ht he hpl
/-- f(e, ..) -/
theorem LF.inCC [Pn] {pos : Pos} {fe e : Expr} {es : List Expr} {t : TD} {tt : TAd} (c : CalR X.prog X.w X.K X.mg X.base k (CallO X.K C) ps S) (hr : Room k X.A) (hgd : X.A.guards = some []) (hf : LD X fe t) (ha : LA X (e :: es) tt)
    (ht : eval (.Call fe (e :: es) [] pos) X.env = (do callWith pos (← eval fe X.env) [] (backTo pos (starEach (e :: es) X.env)) (backToKw pos (keywordEach [] X.env))) := by rfl)
    (he : starEach (e :: es) X.env = (false, eval e X.env) :: starEach es X.env := by rfl) (hpl : (backTo pos (starEach es X.env)).any (·.1) = false := by rfl) : LF X (.Call fe (e :: es) [] pos) (fInC C S t tt) := by
  obtain ⟨f, fd, h1, h2, h3⟩ := c.ex
  exact LF.inC h2 h1 hr hgd h3 hf ha ht he hpl
/-- a statement that is never reached -/
def sNo : TSt := fun _ _ => False
theorem LS.no [Pn] {z : Stmt} : LS X z sNo := ⟨⟨fun pins s σ H D I h => by
  obtain ⟨_, _, _, _, _, h, _⟩ := h
  exact False.elim h⟩⟩
def dNo : TD := fun _ _ => False
theorem LD.no [Pn] {e : Expr} : LD X e dNo := ⟨⟨fun pins s σ H Q I h => by
  obtain ⟨_, _, _, _, _, h, _⟩ := h
  exact False.elim h⟩⟩
theorem emptyD {E0 : Addr} {od : Option Addr} {m : Nat} {sl : Array (Option Value)} (l : K.lookup E0 = some ⟨.type "tuple", od, .seq #[] m, sl⟩) : ∀ F : Hp, DfA K F [V.ref E0] [.tuple []] := fun F =>
  .cons (.tup (xs := []) (.inr ⟨_, _, _, l, rfl, rfl, by show 0 ≤ sizeLine; exact Nat.zero_le _, .nil⟩) .nil) .nil
end
end DL
/-! The data layer, part m-n: == and != of instances by their own __eq__, their own operators. -/
namespace DL
open PySem L2 PyProof.Rows StX PySem.Spec
section
variable {X : Cx} {K : PySem.W.Frag} {σ : L2.St} {F H : Hp} {C f : Addr} {v : V} {y : PD} {pins : List (Addr × Obj)} {s : Shared} {u : Value}
/-! ### the type of a value -/
def tyNames : List String := ["NoneType", "bool", "int", "str", "list", "tuple"]
theorem ty_of (I : Inv X pins σ H s) (r : RelV v u) (sm : Same F H) (d : Df X.K F v y) (hy : noDict y = true) : ∃ T ∈ tyNames, ∀ M, PySem.W.Looks M s.heap (typeOf u) (.type T) := by
  cases d with
  | non => cases r; exact ⟨"NoneType", by simp [tyNames], fun M => PySem.W.Looks.of_pure rfl⟩
  | bl b => cases r; exact ⟨"bool", by simp [tyNames], fun M => PySem.W.Looks.of_pure rfl⟩
  | int i => obtain ⟨t, rfl⟩ := r; exact ⟨"int", by simp [tyNames], fun M => PySem.W.Looks.of_pure rfl⟩
  | str x => obtain ⟨t, rfl⟩ := r; exact ⟨"str", by simp [tyNames], fun M => PySem.W.Looks.of_pure rfl⟩
  | lst h _ =>
    cases r
    obtain ⟨its, rv, pl, _⟩ := I.list (rdSq (rdM sm h))
    obtain ⟨o, e, c, _⟩ := pl.isList
    exact ⟨"list", by simp [tyNames], fun M A Q E s' k q => wpAny_typeOf_ref (k _ _ e) (by rw [c]; exact q)⟩
  | tup h _ =>
    cases r
    obtain ⟨its, rv, ⟨o, e, c, _⟩, _⟩ := I.tuple (seqT sm h)
    exact ⟨"tuple", by simp [tyNames], fun M A Q E s' k q => wpAny_typeOf_ref (k _ _ e) (by rw [c]; exact q)⟩
  | dk _ _ => simp [noDict] at hy
  | ins _ _ => simp [noDict] at hy
  | ex0 => simp [noDict] at hy
  | ex1 _ _ => simp [noDict] at hy
  | dkL _ _ => simp [noDict] at hy
  | ky _ => simp [noDict] at hy
/-! ### == and != -/
/-- the class at C has an own __eq__ (at f), object's __ne__, and is no base of a built-in type -/
structure EqC (K : PySem.W.Frag) (C f : Addr) : Prop where
  eq : PySem.W.findIn K (.ref C) "__eq__" = some (some (.ref f))
  fn : PySem.W.isFn K (.ref f) = true
  ne : PySem.W.findIn K (.ref C) "__ne__" = some (some (.builtin "object.__ne__"))
  ob : PySem.W.mroIn K C (.type "object") = some true
theorem not_first {T : String} (h : T ∈ tyNames) : PySem.W.notFirst K C (.type T) = true := by
  simp only [tyNames, List.mem_cons, List.not_mem_nil, or_false] at h
  rcases h with rfl | rfl | rfl | rfl | rfl | rfl <;> rfl
theorem self_first : PySem.W.notFirst K C (.ref C) = true := by simp [PySem.W.notFirst]
/-- what an instance is set beside: a value without dicts, or an instance of the same class -/
def beside (C : Addr) (y : PD) : Prop := noDict y = true ∨ ∃ es, y = .dict ((.none, .int (C : Int)) :: es)
def TyV (X : Cx) (C : Addr) (v : V) (H : Hp) : Prop := ∀ (pins : List (Addr × Obj)) (σ : L2.St) (s : Shared) (u : Value), Inv X pins σ H s → RelV v u → ∃ tb, (∀ M, PySem.W.Looks M s.heap (typeOf u) tb) ∧ PySem.W.notFirst X.K C tb = true
theorem ty_v (sm : Same F H) (d : Df X.K F v y) (hy : beside C y) : TyV X C v H := fun pins σ s u I r => by
  rcases hy with hy | ⟨es, rfl⟩
  · obtain ⟨T, hT, lk⟩ := ty_of I r sm d hy
    exact ⟨_, lk, not_first hT⟩
  · obtain ⟨a, B, dx, us, rfl, eB, ea, df⟩ := ins_inv d
    have : B = C := by omega
    subst this
    cases r
    obtain ⟨m, J, _⟩ := ins_get I.hok (sm _ _ ea)
    obtain ⟨od, J, _⟩ := J.look
    exact ⟨_, fun M => J.type, self_first⟩
def rEqC (X : Cx) (C : Addr) (sp : Sp) (neg : Bool) : R2 := fun x y H Q => (∃ a dx fs, x = .ref a ∧ H a = some (.ins C dx fs)) ∧ TyV X C y H ∧ sp [x, y] H (fun v H2 => ∃ b, v = .bl b ∧ Q (.bl (if neg then !b else b)) H2) E0
theorem op_eqC {k : Nat} {fd : FuncData} {ps : List Str} {S : FSpec} (ec : EqC X.K C f) (Gd : FnG X.prog X.w X.K X.mg X.base CX0 k f fd ps (liftC X.K S)) (hr : Room k X.A) (hgd : X.A.guards = some []) (hb : Binds X.K fd ps []) :
    OpR X (compareOp .Eq) (rEqC X C (liftC X.K S) false) := by
  intro pins s σ H x y v u Q I rx ry h
  obtain ⟨⟨a, dx, fs, rfl, ha⟩, ty, h⟩ := h
  obtain rfl : v = Value.ref a := rx
  obtain ⟨tb, lk, nf⟩ := ty pins σ s u I ry
  obtain ⟨mA, J, _⟩ := ins_get I.hok ha
  obtain ⟨od, J, _⟩ := J.look
  obtain ⟨m, hF⟩ := I.fr
  refine PySem.W.cmp_K (op := .Eq) hr.units0 hF I.ok.mod.kin J (lk _) nf ec.eq ec.fn ?_
  refine wpAny_mono (runG (us := [.ref a, u]) (vs := [V.ref a, y]) Gd hr hgd hb .nil pass0 I (.cons rfl (.cons ry .nil)) h) (fun w s' hz => ?_) fun _ _ e => e
  obtain ⟨z, H', I', rz, b, ez, q⟩ := hz
  subst ez
  cases rz
  exact ⟨.bl b, H', I', rfl, q⟩
open Builtin in
theorem ne_run {prog : Program} {w : World} {A : Around} {E : Value → Shared → Prop} {h₀ : Heap} {L x : Addr} {m : Str → Option Value} {ox : Obj} {od : Option Obj} {b tb : Value} {Q : Value → Shared → Prop} (hu : A.units + 1 < cLine) (hF : Fr h₀ L s.heap m) (X₀ : K.In h₀) (I : PySem.W.InstAt s.heap x ox C od)
    (hb : PySem.W.Looks (model prog w) s.heap (typeOf b) tb) (hn : PySem.W.notFirst K C tb = true) (ec : EqC K C f)
    (h : wpAny (model prog w) A.in1 (call (.ref f) [.ref x, b]) (fun v s' => ∃ r, v = .bool r ∧ Q (.bool (!r)) s') E s) : wpAny (model prog w) A (richCompare .NotEq (.ref x) b) Q E s := by
  have Xh := X₀.keeps hF.keep
  have own : wpAny (model prog w) A (call (.builtin "object.__ne__") [.ref x, b]) (fun v s' => ∃ r, v = .bool r ∧ Q v s') E s := by
    refine wpAny_call (codeAny_call_builtin PySem.F.slot_object_ne.plain F.cmpEntry_ne (PySem.W.check_slot (i := "object.__ne__") (owner := "object") (n := "__ne__") F.cmpKind_ne F.cmpSplit_ne (I.type.andThen (PySem.W.looks_mroIn Xh ec.ob)) (F.cmpArgs_ne _ _) ?_))
    unfold Builtin.«object.__ne__»
    refine wpAny_bind (m := slotArgs "__ne__" 1 _) (wpAny_pure ?_)
    refine wpAny_bind (m := cRoomFor _ _) (wpAny_cRoomFor (by show A.units + 1 < cLine; exact hu) ?_)
    refine wpAny_bind (m := callSpecialIfBound? (.ref x) (Str.ofString "__eq__") _) (PySem.W.ifBound_K Xh I ec.eq ec.fn (wpAny_mono h (fun v s' hv => ?_) fun _ _ y => y))
    obtain ⟨r, rfl, q⟩ := hv
    refine wpAny_bind (wpAny_truthy_bool ?_)
    exact wpAny_pure ⟨!r, rfl, q⟩
  have one : wpAny (model prog w) A (tryCompare (.ref x) "__ne__" b) (fun r s' => ∃ v, r = some v ∧ Q v s') E s := by
    unfold tryCompare
    simp only [callSpecialIfBound?, bindSpecialIfBound?]
    refine wpAny_bind ?_
    refine wpAny_holding (wpAny_bind (wpAny_bind (wpAny_bind (I.type.here ((PySem.W.looks_findIn Xh ec.ne).here ?_)))))
    simp only [PySem.F.slot_object_ne.bind]
    refine wpAny_bind (wpAny_askSetting (wpAny_ite ?_))
    have fin : wpAny (model prog w) A (call (.builtin "object.__ne__") ([.ref x] ++ [b]) >>= fun v => pure (some v)) (fun a s' => wpAny (model prog w) A (match a with
        | some Value.notImplemented => pure none
        | none => pure none
        | some v => pure (some v)) (fun r s' => ∃ v, r = some v ∧ Q v s') E s') E s := by
      refine wpAny_bind (wpAny_mono own (fun v s' hv => ?_) fun _ _ e => e)
      obtain ⟨r, rfl, q⟩ := hv
      exact wpAny_pure (wpAny_pure ⟨_, rfl, q⟩)
    split
    · exact wpAny_bind (wpAny_pure (wpAny_pure fin))
    · exact wpAny_tryCatch (wpAny_bind (wpAny_pure (wpAny_pure fin)))
  unfold richCompare
  simp only [oneThing_ref]
  refine wpAny_holding (wpAny_bind (wpAny_cRoomFor (by omega) ?_))
  refine wpAny_bind (I.type.here (wpAny_bind (hb.here ?_)))
  split
  · rename_i q
    have e : PySem.W.subIn K tb (.ref C) = some false := by
      rcases Bool.or_eq_true_iff.mp hn with e | e
      · rw [beq_iff_eq.mp e] at q; simp at q
      · exact beq_iff_eq.mp e
    refine wpAny_bind ((PySem.W.looks_subIn Xh e).here ?_)
    simp only [Bool.false_eq_true, if_false]
    refine wpAny_bind (wpAny_mono one (fun r s' z => ?_) fun _ _ e => e)
    obtain ⟨v, rfl, hq⟩ := z
    exact wpAny_pure hq
  · refine wpAny_bind (wpAny_pure ?_)
    simp only [Bool.false_eq_true, if_false]
    refine wpAny_bind (wpAny_mono one (fun r s' z => ?_) fun _ _ e => e)
    obtain ⟨v, rfl, hq⟩ := z
    exact wpAny_pure hq
/-- a promise kept one call deeper -/
theorem runIn {k : Nat} {fd : FuncData} {ps : List Str} {sp : Sp} {Q : VK} {us : List Value} {vs : List V} (Gd : FnG X.prog X.w X.K X.mg X.base CX0 k f fd ps sp) (hr : Room (k + 1) X.A) (hgd : X.A.guards = some []) (hb : Binds X.K fd ps [])
    (I : Inv X pins σ H s) (r : Vals vs us) (h : sp vs H Q E0) : wpAny (model X.prog X.w) X.A.in1 (call (.ref f) us) (EP X pins σ Q) X.xe s := by
  have e0 : Env0 X.prog X.w X.K X.mg X.base X.A.in1 X.stack s H := by
    have e := I.env0
    exact ⟨e.frames, e.mod, e.bs, e.bsz, e.funs, e.frf, e.hok, e.bare⟩
  have ll : us.length = ps.length := r.length.symm.trans (Gd.len _ _ _ _ h)
  refine wpAny_call (codeAny_mono (Gd.run X.A.in1 X.stack s H ⟨us, []⟩ us vs Q E0 hr.in1 hgd e0 (by have := hb s us I.kIn (by rw [List.append_nil]; exact ll); rw [List.append_nil] at this; exact this) r h) fun res s' hq => ?_)
  rcases res with e' | fl
  · exact pass0 pins σ H s e' s' I hq
  · cases fl <;> first | exact I.after hq | exact False.elim hq
theorem op_neC {k : Nat} {fd : FuncData} {ps : List Str} {S : FSpec} (ec : EqC X.K C f) (Gd : FnG X.prog X.w X.K X.mg X.base CX0 k f fd ps (liftC X.K S)) (hr : Room (k + 1) X.A) (hgd : X.A.guards = some []) (hb : Binds X.K fd ps []) :
    OpR X (compareOp .NotEq) (rEqC X C (liftC X.K S) true) := by
  intro pins s σ H x y v u Q I rx ry h
  obtain ⟨⟨a, dx, fs, rfl, ha⟩, ty, h⟩ := h
  obtain rfl : v = Value.ref a := rx
  obtain ⟨tb, lk, nf⟩ := ty pins σ s u I ry
  obtain ⟨mA, J, _⟩ := ins_get I.hok ha
  obtain ⟨od, J, _⟩ := J.look
  obtain ⟨m, hF⟩ := I.fr
  refine ne_run (by have := hr.un; omega) hF I.ok.mod.kin J (lk _) nf ec ?_
  refine wpAny_mono (runIn (us := [.ref a, u]) (vs := [V.ref a, y]) Gd hr hgd hb I (.cons rfl (.cons ry .nil)) h) (fun w s' hz => ?_) fun _ _ e => e
  obtain ⟨z, H', I', rz, b, ez, q⟩ := hz
  subst ez
  cases rz
  exact ⟨b, rfl, .bl (!b), H', I', rfl, q⟩
end
/-! ### the readings -/
section
variable {X : Cx} {C : Addr} {e e2 : Expr} {pos : Pos} {ta tb : TD} {S : FSpec} {k : Nat} {ps : List Str}
/-- x == y, x != y: x a frozen instance of the class at C -/
def dEqC (C : Addr) (S : FSpec) (neg : Bool) (ta tb : TD) : TD := fun ρ Q => ta ρ fun x ρ1 => tb ρ1 fun y ρ2 => (∃ es, x = .dict ((.none, .int (C : Int)) :: es)) ∧ beside C y ∧ S.sp [.d x, .d y] fun l outs => outs = [] ∧ ∃ b, l = .d (.bool b) ∧ Q (.bool (if neg then !b else b)) ρ2
theorem eqC_of [Pn] {neg : Bool} {σ : L2.St} {H : Hp} {Q : VK} (h : liftD X.K (dEqC C S neg ta tb) σ H Q) : tOp (rEqC X C (liftC X.K S) neg) (liftD X.K ta) (liftD X.K tb) σ H Q := by
  obtain ⟨G, ρ, F, Q', R, q, c⟩ := h
  refine ⟨G, ρ, F, _, R, q, fun x ρ1 v H1 F1 h1 R1 s1 dx => ⟨G, ρ1, F1, _, R1, h1, fun y ρ2 u H2 F2 h2 R2 s2 dy => ?_⟩⟩
  obtain ⟨⟨es, rfl⟩, hy, h3⟩ := h2
  obtain ⟨a, B, dd, us, rfl, eB, ea, df⟩ := ins_inv dx
  have : B = C := by omega
  subst this
  refine ⟨⟨a, dd, us, rfl, R2.fh _ _ (s2 _ _ ea)⟩, ty_v R2.fh dy hy, ?_⟩
  refine ⟨[.d (.dict ((.none, .int (B : Int)) :: es)), .d y], F2, [], 0, fun l outs => outs = [] ∧ ∃ b, l = .d (.bool b) ∧ Q' (.bool (if neg then !b else b)) ρ2, R2.fh, .cons (dx.mono s2) (.cons dy .nil), IoOk.ds [_, _], h3, fun r outs v F' H' q' P => ?_⟩
  obtain ⟨rfl, b, rfl, q2⟩ := q'
  obtain ⟨R3, r3⟩ := R2.call0 (xs := [_, _]) P
  have hv : v = .bl b := by
    have : Df X.K F' v (.bool b) := r3
    cases this
    rfl
  subst hv
  exact ⟨b, rfl, c _ _ _ _ _ q2 R3 ((s1.trans s2).trans P.ff) (.bl _)⟩
theorem LD.eqC [Pn] (c : CalR X.prog X.w X.K X.mg X.base k (EqC X.K C) ps S) (hr : Room k X.A) (hgd : X.A.guards = some []) (ha : LD X e ta) (hb : LD X e2 tb) : LD X (.Compare e [.Eq] [e2] pos) (dEqC C S false ta tb) := by
  obtain ⟨f, fd, h1, h2, h3⟩ := c.ex
  exact ⟨peImp (pe_cmpR (op_eqC h2 h1 hr hgd h3) ha.p hb.p (nomark _)) fun _ _ _ h => eqC_of h⟩
theorem LD.neC [Pn] (c : CalR X.prog X.w X.K X.mg X.base k (EqC X.K C) ps S) (hr : Room (k + 1) X.A) (hgd : X.A.guards = some []) (ha : LD X e ta) (hb : LD X e2 tb) : LD X (.Compare e [.NotEq] [e2] pos) (dEqC C S true ta tb) := by
  obtain ⟨f, fd, h1, h2, h3⟩ := c.ex
  exact ⟨peImp (pe_cmpR (op_neC h2 h1 hr hgd h3) ha.p hb.p (nomark _)) fun _ _ _ h => eqC_of h⟩
/-- isinstance(x, C) of an own class -/
structure IsC (K : PySem.W.Frag) (C : Addr) : Prop where
  ty : ∀ T ∈ tyNames, PySem.W.kitOne K (.type T) (.ref C) = some false
  ha : PySem.W.findIn K (.ref C) "__class__" = some (some (.builtin "object.__class__"))
  hn : PySem.W.specialIn K (.builtin "object.__class__") "__get__" = some (some (.builtin "getset_descriptor.__get__"))
  tk : PySem.W.takesIn K (.builtin "object.__class__") = some true
  hm : PySem.W.mroIn K C (.type "object") = some true
theorem isC_mk {K : PySem.W.Frag} {C : Addr} (t1 : PySem.W.kitOne K (.type "NoneType") (.ref C) = some false) (t2 : PySem.W.kitOne K (.type "bool") (.ref C) = some false) (t3 : PySem.W.kitOne K (.type "int") (.ref C) = some false) (t4 : PySem.W.kitOne K (.type "str") (.ref C) = some false) (t5 : PySem.W.kitOne K (.type "list") (.ref C) = some false) (t6 : PySem.W.kitOne K (.type "tuple") (.ref C) = some false)
    (ha : PySem.W.findIn K (.ref C) "__class__" = some (some (.builtin "object.__class__"))) (hn : PySem.W.specialIn K (.builtin "object.__class__") "__get__" = some (some (.builtin "getset_descriptor.__get__"))) (tk : PySem.W.takesIn K (.builtin "object.__class__") = some true) (hm : PySem.W.mroIn K C (.type "object") = some true) : IsC K C :=
  ⟨fun T hT => by
    simp only [tyNames, List.mem_cons, List.not_mem_nil, or_false] at hT
    rcases hT with rfl | rfl | rfl | rfl | rfl | rfl
    · exact t1
    · exact t2
    · exact t3
    · exact t4
    · exact t5
    · exact t6, ha, hn, tk, hm⟩
theorem tyD_name {x : PD} (h : plainD x = true) : tyD x ∈ tyNames := by
  cases x <;> first | (cases h; done) | simp [tyD, tyNames]
def dIsC (C : Addr) (oa : Op1) : TD := fun ρ Q => oa.run ρ fun a ρ1 => res1 ρ1 a fun x => (plainD x = true ∧ Q (.bool false) ρ1) ∨ ((∃ es, x = .dict ((.none, .int (C : Int)) :: es)) ∧ Q (.bool true) ρ1)
theorem LD.isC [Pn] {n : Str} {p p2 : Pos} {oa : Op1} (ic : IsC X.K C) (hc : Cls X.K C) (hg : Gl X "isinstance") (hm : X.mg "isinstance" = none) (hgT : Gl X n) (hmT : X.mg n = some (.ref C)) (h : LO X e oa)
    (he : starEach [e, .Name n p2] X.env = (false, eval e X.env) :: starEach [.Name n p2] X.env := by rfl) (hpl : (backTo pos (starEach [.Name n p2] X.env)).any (·.1) = false := by rfl) (he2 : starEach [.Name n p2] X.env = (false, eval (.Name n p2) X.env) :: starEach [] X.env := by rfl)
    (hdb : (n == ("__debug__" : Str)) = false := by decide) : LD X (.Call (.Name "isinstance" p) [e, .Name n p2] [] pos) (dIsC C oa) :=
  ⟨peImp (pe_callB call_isi hg hm (by decide +kernel) (pa_cons h.p (pa_cons (pe_glob (v := .ref C) hgT hmT rfl hdb) pa_nil he2) he) (by decide) (by decide) he hpl) fun σ H Q ⟨G, ρ, F, Q', R, q, c⟩ => ⟨G, ρ, F, _, R, q, fun a ρ1 v H1 F1 h1 R1 s1 av => by
    obtain ⟨x, h2, d⟩ := res1_dr R1 av h1
    rcases h2 with ⟨hd, h2⟩ | ⟨⟨es, rfl⟩, h2⟩
    · exact ⟨v, .ref C, _, _, _, rfl, .own C, tyx_of (d.df R1.fh) hd, ic.ty _ (tyD_name hd), c _ _ _ _ _ h2 R1 s1 (.bl _)⟩
    · obtain ⟨b, B, dx, us, rfl, eB, ea, df⟩ := ins_inv (d.df R1.fh)
      have : B = C := by omega
      subst this
      exact ⟨.ref b, .ref B, _, _, true, rfl, .own B, .base (.ins ea hc ic.ha ic.hn ic.tk ic.hm), by unfold PySem.W.kitOne; rw [if_pos (beq_self_eq_true _)], c _ _ _ _ _ h2 R1 s1 (.bl _)⟩⟩⟩
end
end DL
/-! The data layer, part m-o: operators of an own class. -/
namespace DL
open PySem L2 PyProof.Rows StX PySem.Spec
/-- the class at C has op (as its def at f), its right-hand form too or not; int has both forms or not -/
structure OpC (K : PySem.W.Frag) (C : Addr) (op : Operator) (f : Addr) : Prop where
  at_ : PySem.W.findIn K (.ref C) (PySem.dunder op.info.2) = some (some (.ref f))
  fn : PySem.W.isFn K (.ref f) = true
  first : PySem.W.selfFirst K C = true
  rt : ∃ rc : Option Value, PySem.W.findIn K (.ref C) (dunderR op.info.2) = some rc ∧ (rc = none ∨ ∃ g : Addr, rc = some (.ref g))
  i1 : ∃ fo, PySem.W.findIn K (.type "int") (PySem.dunder op.info.2) = some fo
  i2 : ∃ ro, PySem.W.findIn K (.type "int") (dunderR op.info.2) = some ro
structure NegC (K : PySem.W.Frag) (C f : Addr) : Prop where
  at_ : PySem.W.findIn K (.ref C) "__neg__" = some (some (.ref f))
  fn : PySem.W.isFn K (.ref f) = true
section
variable {X : Cx} {K : PySem.W.Frag} {σ : L2.St} {F H : Hp} {C f : Addr} {v : V} {y : PD} {pins : List (Addr × Obj)} {s : Shared} {u : Value} {op : Operator}
theorem back_of {Q : VK} {w : Value} {s' : Shared} (h : EP X pins σ Q w s') : PySem.W.CmpBack (EP X pins σ Q) w s' := by
  have h0 := h
  obtain ⟨z, H', I', rz, q⟩ := h
  cases w <;> first | exact h0 | (exfalso; cases z <;> first | (cases rz; done) | (obtain ⟨_, e⟩ := rz; cases e))
def rOpC (X : Cx) (C : Addr) (sp : Sp) : R2 := fun x y H Q => (∃ a dx fs, x = .ref a ∧ H a = some (.ins C dx fs)) ∧ ((∃ i, y = .int i) ∨ ∃ b dy gs, y = .ref b ∧ H b = some (.ins C dy gs)) ∧ sp [x, y] H Q E0
theorem op_opC {k : Nat} {fd : FuncData} {ps : List Str} {S : FSpec} (oc : OpC X.K C op f) (Gd : FnG X.prog X.w X.K X.mg X.base CX0 k f fd ps (liftC X.K S)) (hr : Room k X.A) (hgd : X.A.guards = some []) (hb : Binds X.K fd ps []) :
    OpR X (binaryOp op) (rOpC X C (liftC X.K S)) := by
  intro pins s σ H x y v u Q I rx ry h
  obtain ⟨⟨a, dx, fs, rfl, ha⟩, hy, h⟩ := h
  obtain rfl : v = Value.ref a := rx
  obtain ⟨mA, J, _⟩ := ins_get I.hok ha
  obtain ⟨od, J, _⟩ := J.look
  obtain ⟨m, hF⟩ := I.fr
  have run := wpAny_mono (runG (us := [.ref a, u]) (vs := [V.ref a, y]) Gd hr hgd hb .nil pass0 I (.cons rfl (.cons ry .nil)) h) (fun w s' hz => back_of hz) fun _ _ e => e
  rcases hy with ⟨i, rfl⟩ | ⟨b, dy, gs, rfl, hb2⟩
  · obtain ⟨t, rfl⟩ := ry
    obtain ⟨rc, r1, r2⟩ := oc.rt
    obtain ⟨fo, i1⟩ := oc.i1
    obtain ⟨ro, i2⟩ := oc.i2
    exact PySem.W.ksp_binT (T := "int") hF I.ok.mod.kin J rfl oc.first oc.at_ oc.fn r1 r2 i1 i2 rfl run
  · cases ry
    obtain ⟨mB, J', _⟩ := ins_get I.hok hb2
    obtain ⟨od', J', _⟩ := J'.look
    exact PySem.W.binop_K hF I.ok.mod.kin J J'.type oc.first oc.at_ oc.fn run
end
section
variable {X : Cx} {C : Addr} {e e2 : Expr} {pos : Pos} {ta tb : TD} {S : FSpec} {k : Nat} {ps : List Str} {op : Operator} {σ : L2.St} {H : Hp} {Q : VK}
def inst (C : Addr) (x : PD) : Prop := ∃ es, x = .dict ((.none, .int (C : Int)) :: es)
/-- x op y, x a frozen instance of the class at C, y an int or such an instance -/
def fOpC (C : Addr) (S : FSpec) (ta tb : TD) : TF := fun ρ Q => ta ρ fun x ρ1 => tb ρ1 fun y ρ2 => inst C x ∧ ((∃ i, y = .int i) ∨ inst C y) ∧ S.sp [.d x, .d y] fun l outs => outs = [] ∧ Q l ρ2
theorem opC_of [Pn] (h : liftF X.K (fOpC C S ta tb) σ H Q) : tOp (rOpC X C (liftC X.K S)) (liftD X.K ta) (liftD X.K tb) σ H Q := by
  obtain ⟨G, ρ, F, Q', R, q, c⟩ := h
  refine ⟨G, ρ, F, _, R, q, fun x ρ1 v H1 F1 h1 R1 s1 dx => ⟨G, ρ1, F1, _, R1, h1, fun y ρ2 u H2 F2 h2 R2 s2 dy => ?_⟩⟩
  obtain ⟨⟨es, rfl⟩, hy, h3⟩ := h2
  obtain ⟨a, B, dd, us, rfl, eB, ea, df⟩ := ins_inv dx
  have : B = C := by omega
  subst this
  refine ⟨⟨a, dd, us, rfl, R2.fh _ _ (s2 _ _ ea)⟩, ?_, ?_⟩
  · rcases hy with ⟨i, rfl⟩ | ⟨es2, rfl⟩
    · cases dy
      exact .inl ⟨_, rfl⟩
    · obtain ⟨b, B2, dd2, us2, rfl, eB2, eb, _⟩ := ins_inv dy
      have : B2 = B := by omega
      subst this
      exact .inr ⟨b, dd2, us2, rfl, R2.fh _ _ eb⟩
  · refine ⟨[.d (.dict ((.none, .int (B : Int)) :: es)), .d y], F2, [], 0, fun l outs => outs = [] ∧ Q' l ρ2, R2.fh, .cons (dx.mono s2) (.cons dy .nil), IoOk.ds [_, _], h3, fun r outs v F' H' q' P => ?_⟩
    obtain ⟨rfl, q2⟩ := q'
    obtain ⟨R3, r3⟩ := R2.call0 (xs := [_, _]) P
    exact c _ _ _ _ _ q2 R3 ((s1.trans s2).trans P.ff) r3
theorem LF.opC [Pn] (c : CalR X.prog X.w X.K X.mg X.base k (OpC X.K C op) ps S) (hr : Room k X.A) (hgd : X.A.guards = some []) (ha : LD X e ta) (hb : LD X e2 tb) : LF X (.BinOp e op e2 pos) (fOpC C S ta tb) := by
  obtain ⟨f, fd, h1, h2, h3⟩ := c.ex
  exact ⟨peImp (pe_op (op_opC h2 h1 hr hgd h3) ha.p hb.p) fun _ _ _ h => opC_of h⟩
/-! ### isinstance(x, int), x an instance too -/
structure NotC (K : PySem.W.Frag) (C : Addr) (T : String) : Prop where
  no : PySem.W.kitOne K (.ref C) (.type T) = some false
def dIsiI (C : Addr) (T : String) (oa : Op1) : TD := fun ρ Q => oa.run ρ fun a ρ1 => res1 ρ1 a fun x => (plainD x = true ∧ Q (.bool (isTy T x)) ρ1) ∨ (inst C x ∧ Q (.bool false) ρ1)
variable {p : Pos} {oa : Op1}
theorem LD.isiI [Pn] {y : Str} {p2 : Pos} (T : String) (ic : IsC X.K C) (hc : Cls X.K C) (nc : NotC X.K C T) (hT : T = "int" ∨ T = "bool" ∨ T = "str" ∨ T = "tuple" ∨ T = "list") (hg : Gl X "isinstance") (hm : X.mg "isinstance" = none) (hgT : Gl X y) (hmT : X.mg y = none) (hvT : bootBuiltins y = some (.type T)) (h : LO X e oa)
    (he : starEach [e, .Name y p2] X.env = (false, eval e X.env) :: starEach [.Name y p2] X.env := by rfl) (hpl : (backTo pos (starEach [.Name y p2] X.env)).any (·.1) = false := by rfl) (he2 : starEach [.Name y p2] X.env = (false, eval (.Name y p2) X.env) :: starEach [] X.env := by rfl)
    (hn : y ≠ "__name__" := by decide) (hdb : (y == ("__debug__" : Str)) = false := by decide) :
    LD X (.Call (.Name "isinstance" p) [e, .Name y p2] [] pos) (dIsiI C T oa) :=
  ⟨peImp (pe_callB call_isi hg hm (by decide +kernel) (pa_cons h.p (pa_cons (pe_bltn (v := .ty T) hgT hmT hvT rfl hn hdb) pa_nil he2) he) (by decide) (by decide) he hpl) fun σ H Q ⟨G, ρ, F, Q', R, q, c⟩ => ⟨G, ρ, F, _, R, q, fun a ρ1 v H1 F1 h1 R1 s1 av => by
    obtain ⟨x, h2, d⟩ := res1_dr R1 av h1
    rcases h2 with ⟨hd, h2⟩ | ⟨⟨es, rfl⟩, h2⟩
    · exact ⟨v, .ty T, _, _, _, rfl, .ty T, tyx_of (d.df R1.fh) hd, kit_all hT hd, c _ _ _ _ _ h2 R1 s1 (.bl _)⟩
    · obtain ⟨b, B, dx, us, rfl, eB, ea, df⟩ := ins_inv (d.df R1.fh)
      have : B = C := by omega
      subst this
      exact ⟨.ref b, .ty T, _, _, _, rfl, .ty T, .base (.ins ea hc ic.ha ic.hn ic.tk ic.hm), nc.no, c _ _ _ _ _ h2 R1 s1 (.bl _)⟩⟩⟩
end
end DL
/-! The data layer, part n-a: errors that leave a def: what they are, calls that may raise, defs that may raise. -/
namespace DL
open PySem L2 PyProof.Rows
/-- an error: its class, its attributes -/
abbrev Xd := Addr × List (PD × PD)
def XcOk (K : PySem.W.Frag) (F : Hp) (x : Xd) (cls : Value) (d : Option Addr) : Prop :=
  cls = .ref x.1 ∧ ((d = none ∧ x.2 = []) ∨ ∃ dd us, d = some dd ∧ F dd = some (.xd us) ∧ DfF K F us x.2)
theorem XcOk.mono {K : PySem.W.Frag} {F F' : Hp} {x : Xd} {cls : Value} {d : Option Addr} (s : Same F F') (h : XcOk K F x cls d) : XcOk K F' x cls d := by
  obtain ⟨e, h⟩ := h
  refine ⟨e, ?_⟩
  rcases h with h | ⟨dd, us, e1, e2, e3⟩
  · exact .inl h
  · exact .inr ⟨dd, us, e1, s _ _ e2, e3.mono s⟩
/-- a wish of data for an error -/
def WD [Pn] (K : PySem.W.Frag) (u : Xd → En → Prop) : WX := fun cls d σ H => ∃ G ρ F x, Rel K G ρ F σ H ∧ XcOk K F x cls d ∧ u x ρ
structure XSpec where
  sp : List Lc → (Lc → List Lc → Prop) → (Xd → List Lc → Prop) → Prop
def liftX (K : PySem.W.Frag) (S : XSpec) : Sp := fun vs H Q E => ∃ args F ios n Qd Ed, Same F H ∧ ArgsOk K F H ios args vs ∧ IoOk H ios n args ∧
  S.sp args Qd Ed ∧ (∀ r outs v F' H', Qd r outs → Post K F H ios n (nioOf args) r outs v F' H' → Q v H') ∧
  ∀ x outs cls d F' H', Ed x outs → Post K F H ios n (nioOf args) (.d .none) outs .non F' H' → XcOk K F' x cls d → E cls d H'
/-- f(e, ..), f may raise -/
def fCallX (S : XSpec) (u : Xd → En → Prop) (t : TAd) : TF := fun ρ Q => t ρ fun as ρ1 => match argsAt ρ1 as 0 with
  | some (args, is) => nodupB is = true ∧ S.sp args (fun r outs => putF ρ1 ρ1 is outs fun ρ2 => Q r ρ2) fun x outs => putF ρ1 ρ1 is outs fun ρ2 => u x ρ2
  | none => False
def tCallE (sp : Sp) (W : WX) (t : TA) : TE := fun σ H Q => t σ H fun vs H1 => sp vs H1 Q (WE W σ)
section
variable {G : Gm} {K : PySem.W.Frag} {F F' H H' : Hp} {ρ : En} {σ : L2.St} {v : V} {S : XSpec} {tt : TAd} {u : Xd → En → Prop}
theorem tCallX_of [Pn] {m : Nat} {Q : VK} (h : liftF K (fCallX S u tt) σ H Q) : tCallE (liftX K S) (WD K u) (liftA K m tt) σ H Q := by
  obtain ⟨G, ρ, F, Q', R, q, c⟩ := h
  refine ⟨G, ρ, F, _, R, q, fun as ρ1 vs H1 F1 h1 hl R1 s1 av => ?_⟩
  split at h1
  · rename_i args is ea
    obtain ⟨hn, h1⟩ := h1
    have hn := nodup_of hn
    obtain ⟨ios, p3, io, back⟩ := callIo R1 av ea hn
    refine ⟨args, F1, ios, is.length, _, _, R1.fh, p3, io, h1, fun r outs v F' H' q' P => ?_, fun x outs cls d F' H' q' P xc => ?_⟩
    · obtain ⟨R2, r2⟩ := back P
      have q2 := q'
      change putF _ _ _ _ _ at q2
      rw [putF_eq] at q2
      exact c _ _ _ _ _ q2 R2 (s1.trans P.ff) r2
    · obtain ⟨R2, _⟩ := back P
      have q2 := q'
      change putF _ _ _ _ _ at q2
      rw [putF_eq] at q2
      exact ⟨G, _, F', x, R2, xc, q2⟩
  · exact False.elim h1
end
section
variable {P : Program} {w : World} {K : PySem.W.Frag} {mg : Str → Option Value} {base : Heap} {j k : Nat} {f : Addr} {fd : FuncData} {ps : List Str} {sp : Sp} {X : Cx} {E : XK} {n : Str} {p pos : Pos} {e : Expr} {es : List Expr} {t : TA} {S : XSpec} {tt : TAd} {F H : Hp} {st : Stmt} {u : Xd → En → Prop} {W : WX}
theorem runGS {pins : List (Addr × Obj)} {σ : L2.St} {s : Shared} {Q : VK} {us : List Value} {vs : List V} (Gd : FnG X.prog X.w X.K X.mg X.base (L2.CX X.prog X.w) k f fd ps sp) (hr : Room k X.A) (hgd : X.A.guards = some []) (hb : Binds X.K fd ps [])
    (hx : PassesAt (L2.CX X.prog X.w) X σ E) (I : Inv X pins σ H s) (r : Vals vs us) (h : sp vs H Q E) : wpAny (model X.prog X.w) X.A (call (.ref f) us) (EP X pins σ Q) X.xe s := by
  have ll : us.length = ps.length := r.length.symm.trans (Gd.len _ _ _ _ h)
  have b := hb s us I.kIn (by rw [List.append_nil]; exact ll)
  rw [List.append_nil] at b
  have run := Gd.run X.A X.stack s H ⟨us, []⟩ us vs Q E hr hgd I.env0 b r h
  refine wpAny_call (codeAny_mono run fun res s' hq => ?_)
  rcases res with e' | fl
  · exact hx pins H s e' s' I hq
  · cases fl <;> first | exact I.after hq | exact False.elim hq
theorem peGE (Gd : FnG X.prog X.w X.K X.mg X.base (L2.CX X.prog X.w) k f fd ps sp) (hr : Room k X.A) (hgd : X.A.guards = some []) (hg : Gl X n) (hm : X.mg n = some (.ref f)) (hk : PySem.W.keepIn X.K (.ref f) = true) (hb : Binds X.K fd ps []) (tk : Takes X W)
    (ha : PA X (e :: es) t) (hdb : (n == ("__debug__" : Str)) = false := by decide) (he : starEach (e :: es) X.env = (false, eval e X.env) :: starEach es X.env := by rfl) (hpl : (backTo pos (starEach es X.env)).any (·.1) = false := by rfl) :
    PE X (.Call (.Name n p) (e :: es) [] pos) (tCallE sp W t) :=
  ⟨fun pins s σ H Q I h => wpAny_Call_Name_kw (ld_glob I hg hm (PySem.W.callWith_K (h₀ := X.base) I.ok.mod.kin hk (thn (ha.run pos pins s σ H _ I h) fun us s1 ⟨vs, H1, I1, r, q⟩ => ⟨I1.kIn, runGS Gd hr hgd hb (passAt tk σ) I1 r q⟩) he hpl) hdb)⟩
/-- a def that may be called by its name, and may raise -/
structure CalE (P : Program) (w : World) (K : PySem.W.Frag) (mg : Str → Option Value) (base : Heap) (k : Nat) (n : Str) (ps : List Str) (S : XSpec) : Prop where
  ex : ∃ f fd, FnG P w K mg base (L2.CX P w) k f fd ps (liftX K S) ∧ mg n = some (.ref f) ∧ PySem.W.keepIn K (.ref f) = true ∧ Binds K fd ps []
theorem CalE.mono (h : CalE P w K mg base j n ps S) (hk : j ≤ k) : CalE P w K mg base k n ps S := by
  obtain ⟨f, fd, h1, h2⟩ := h.ex
  exact ⟨f, fd, h1.mono hk, h2⟩
theorem LF.calE [Pn] (C : CalE X.prog X.w X.K X.mg X.base k n ps S) (hr : Room k X.A) (hgd : X.A.guards = some []) (tk : Takes X (WD X.K u)) (hg : Gl X n) (ha : LA X (e :: es) tt)
    (hdb : (n == ("__debug__" : Str)) = false := by decide) (he : starEach (e :: es) X.env = (false, eval e X.env) :: starEach es X.env := by rfl) (hpl : (backTo pos (starEach es X.env)).any (·.1) = false := by rfl) :
    LF X (.Call (.Name n p) (e :: es) [] pos) (fCallX S u tt) := by
  obtain ⟨f, fd, h1, h2, h3, h4⟩ := C.ex
  exact ⟨peImp (peGE h1 hr hgd hg h2 h3 h4 tk ha.p hdb he hpl) fun σ H Q h => tCallX_of h⟩
/-! ### defs that may raise -/
def endsX (args : List Lc) (E : Xd → List Lc → Prop) (x : Xd) (ρ : En) : Prop := match outsAt ρ (ioSlots args 0) 0 with
  | some outs => E x outs
  | none => False
theorem Rel.root {G0 : Gm} {ρ : En} {σ : L2.St} : ∀ {G : Gm}, Pins G0 G → @Rel (Pn.at_ G0) K G ρ F σ H → @Rel (Pn.at_ G0) K G0 ρ F σ H := by
  intro G hp
  induction hp with
  | refl => exact fun R => R
  | pin h h0 f0 hio no ih =>
    letI : Pn := Pn.at_ G0
    exact fun R => ih (Rel.unpin (show Pn.P _ from h) R h0 f0 hio no).1
theorem def_okE {x qual : Str} {N : List Str} {ir : (Xd → En → Prop) → TSt} (Fn : FunX K x qual st f fd) (Sc : FnScope N ps (defScope st)) (len : ∀ args Q E, S.sp args Q E → args.length = ps.length)
    (hb : ∀ [Pn] (cdv : Value) (A : Around) (outer : List PySem.Env) (s : Shared) (H : Hp) (E : XK) (u : Xd → En → Prop), Room k (A.deeper (envOfC qual (defScope st) s.heap.objs.size f cdv)) → (A.deeper (envOfC qual (defScope st) s.heap.objs.size f cdv)).guards = some [] →
      Takes (cxOf (L2.CX P w) P w K mg base N qual (defScope st) f cdv A outer s H E) (WD K u) → LSs (cxOf (L2.CX P w) P w K mg base N qual (defScope st) f cdv A outer s H E) (defBody st) (ir u))
    (hsp : ∀ args Q E, S.sp args Q E → ir (endsX args E) (endsOf args Q) (rho0 N args)) : FnG P w K mg base (L2.CX P w) (k + 1) f fd ps (liftX K S) := by
  obtain ⟨oc, od, dV, kV, doc, pm, an, cdv, ct, osl, rfl, lk, hcd⟩ := Fn.ex
  refine fnG lk hcd Sc (fun vs H Q E h => ?_) fun A outer s H vs Q E hr hgd h => ?_
  · obtain ⟨args, F, ios, n, Qd, Ed, _, a, _, h, _⟩ := h
    rw [← a.length]; exact len args Qd Ed h
  · obtain ⟨args, F, ios, n, Qd, Ed, s0, a, io, h, c, cx⟩ := h
    letI : Pn := Pn.at_ ⟨H, F, ios, nioOf args⟩
    have R := Rel.start (N := N) Pins.refl s0 a io
    have ht := io.tg
    have tk : Takes (cxOf (L2.CX P w) P w K mg base N qual (defScope st) f cdv A outer s H E) (WD K (endsX args Ed)) := Takes.imp (takes_of rfl rfl rfl rfl) fun cls d σ H' ⟨G, ρ, F', x, R', xc, hx⟩ => by
      have R0 := Rel.root R'.ok R'
      unfold endsX at hx
      split at hx
      · rename_i outs eo
        exact cx _ _ _ _ _ _ hx (end_post (l := .d .none) (v := .non) ht eo R0 .non) xc
      · exact False.elim hx
    refine ⟨_, (hb cdv A outer s H E (endsX args Ed) hr hgd tk).p, ?_⟩
    exact ⟨⟨H, F, ios, nioOf args⟩, rho0 N args, F, endsOf args Qd, R, hsp args Qd Ed h, ⟨fun ρ σ H' F' hq R' s' => end_fin (l := .d .none) (v := .non) ht c hq R' (show Df K F' .non .none from .non), fun l ρ v σ H' F' hq R' s' r => end_fin ht c hq R' r, fun _ _ _ _ z => False.elim z, fun _ _ _ _ z => False.elim z⟩⟩
theorem def_calE {N : List Str} {ir : (Xd → En → Prop) → TSt} (D : Dn K mg n st ps) (Sc : FnScope N ps (defScope st)) (len : ∀ args Q E, S.sp args Q E → args.length = ps.length)
    (hb : ∀ [Pn] (f : Addr) (cdv : Value) (A : Around) (outer : List PySem.Env) (s : Shared) (H : Hp) (E : XK) (u : Xd → En → Prop), Room k (A.deeper (envOfC n (defScope st) s.heap.objs.size f cdv)) → (A.deeper (envOfC n (defScope st) s.heap.objs.size f cdv)).guards = some [] →
      Takes (cxOf (L2.CX P w) P w K mg base N n (defScope st) f cdv A outer s H E) (WD K u) → LSs (cxOf (L2.CX P w) P w K mg base N n (defScope st) f cdv A outer s H E) (defBody st) (ir u))
    (hsp : ∀ args Q E, S.sp args Q E → ir (endsX args E) (endsOf args Q) (rho0 N args)) : CalE P w K mg base (k + 1) n ps S := by
  obtain ⟨f, fd, h1, h2, h3⟩ := D.ex
  exact ⟨f, fd, def_okE (funX_of h1) Sc len (hb f) hsp, h2, h1.kp, h3⟩
/-- a call without arguments -/
theorem LF.calE0 [Pn] (C : CalE X.prog X.w X.K X.mg X.base k n [] S) (hr : Room k X.A) (hgd : X.A.guards = some []) (tk : Takes X (WD X.K u)) (hg : Gl X n) (hdb : (n == ("__debug__" : Str)) = false := by decide) : LF X (.Call (.Name n p) [] [] pos) (fCallX S u aNil) := by
  obtain ⟨f, fd, h1, h2, h3, h4⟩ := C.ex
  have pe : PE X (.Call (.Name n p) [] [] pos) (tCallE (liftX X.K S) (WD X.K u) tNil) := ⟨fun pins s σ H Q I h =>
    wpAny_Call_Name_kw (ld_glob I hg h2 (PySem.W.callWith_K0 I.kIn h3 (runGS (us := []) h1 hr hgd h4 (passAt tk σ) I .nil h)) hdb)⟩
  refine ⟨peImp pe fun σ H Q h => ?_⟩
  obtain ⟨G, ρ, F, Q', R, q, c⟩ := tCallX_of (m := 0) h
  exact c _ _ _ H F q rfl R (Same.refl _) .nil
/-- nothing is asked of a def of which nothing is promised -/
theorem CalE.vac (D : Dn K mg n st ps) (no : ∀ args Q E, ¬ S.sp args Q E) : CalE P w K mg base k n ps S := by
  obtain ⟨f, fd, h1, h2, h3⟩ := D.ex
  have no' : ∀ vs H Q E, ¬ liftX K S vs H Q E := fun vs H Q E h => by
    obtain ⟨args, F, ios, n, Qd, Ed, _, _, _, h, _⟩ := h
    exact no _ _ _ h
  exact ⟨f, fd, ⟨fun vs H Q E h => absurd h (no' vs H Q E), fun A outer s H args us vs Q E _ _ _ _ _ h => absurd h (no' vs H Q E)⟩, h2, h1.kp, h3⟩
end
end DL
/-! The data layer, part n-b: own errors made and raised. -/
namespace DL
open PySem L2 PyProof.Rows
/-- what the base class of the errors must be: its __init__ is ValueError's -/
structure HeC (K : PySem.W.Frag) (HC : Addr) : Prop where
  sg : PySem.W.specialIn K (.ref HC) "__getattribute__" = some (some (.builtin "type.__getattribute__"))
  rd : PySem.W.readsIn K HC (.type "type") = true
  vi : PySem.W.findCls K (.ref HC) (.type "type") "__init__" = some (.val (.builtin "ValueError.__init__"))
section
variable {X : Cx} {K : PySem.W.Frag} {e : Expr} {es : List Expr} {ta : TA} {x f : Str} {HC C : Addr} {p p1 p2 pos pos2 : Pos}
/-- HC.__init__(self, ..) -/
theorem pe_hinit {pl : Sem Bool} (hg : Gl X x) (hm : X.mg x = some (.ref HC)) (hc : HeC X.K HC) (ha : PA X (e :: es) ta)
    (ev : eval (.Call (.Attribute (.Name x p1) "__init__" p2) (e :: es) [] pos) X.env = (do
      let ov ← eval (.Name x p1) X.env
      standAt p2.atName
      let (f, first) ← holding [ov] (getMethod ov "__init__" pl)
      callWith pos f first (backTo pos (starEach (e :: es) X.env)) (backToKw pos (keywordEach [] X.env))) := by rfl)
    (hdb : (x == ("__debug__" : Str)) = false := by decide)
    (he : starEach (e :: es) X.env = (false, eval e X.env) :: starEach es X.env := by rfl) (hpl : (backTo pos (starEach es X.env)).any (·.1) = false := by rfl) :
    PE X (.Call (.Attribute (.Name x p1) "__init__" p2) (e :: es) [] pos) (tVeI X.K ta) := by
  refine ⟨fun pins s σ H Q I h => ?_⟩
  refine PySem.W.methodCall_KW (pl := pl) (ld_glob I hg hm ?_ hdb) ev
  refine PySem.W.method_cls I.kIn hc.sg (PySem.W.cls_value I.kIn hc.rd hc.vi (by decide +kernel) ?_)
  show wpAny _ _ (callWith pos (Value.builtin "ValueError.__init__") [] (backTo pos (starEach (e :: es) X.env)) []) _ _ _
  refine callWith_method1 (thn (ha.run pos pins _ σ H _ (I.tok _) h) fun us s1 hh => ?_) he hpl
  obtain ⟨vs, H1, I1, r1, a, C, ws, rfl, hl, T, ea, q⟩ := hh
  cases r1 with
  | @cons _ u0 _ ur ra rr =>
    obtain rfl : u0 = Value.ref a := ra
    refine oinit_ok T I1 ea ?_ fun s' J => ⟨.non, H1, J, rfl, q⟩
    rw [← Paired.length rr, sizeLine_eq]; omega
/-- what __init__ of such an error does: all arguments become attributes -/
def spExI (K : PySem.W.Frag) (C : Addr) (names : List Str) : Sp := fun vs H Q _ => ∃ a ys, vs = .ref a :: ys ∧ ys.length = names.length ∧ OexC K C ∧ H a = some (exo a C none) ∧
  ∀ d H3, H d = none → d ≠ a → H3 a = some (exo a C (some d)) → H3 d = some (exd d (names.zip ys).reverse) → (∀ b, b ≠ a → b ≠ d → H3 b = H b) → Q .non H3
structure ExMk (P : Program) (w : World) (K : PySem.W.Frag) (mg : Str → Option Value) (base : Heap) (k : Nat) (n : Str) (C : Addr) (names : List Str) : Prop where
  ex : ∃ fI fd, OexC K C ∧ PySem.W.findIn K (.ref C) "__init__" = some (some (.ref fI)) ∧ PySem.W.typeIn K (.ref fI) = some (.type "function") ∧ FnOk P w K mg base CX0 k fI fd ("self" :: names) (spExI K C names) ∧ Binds K fd ("self" :: names) [] ∧ mg n = some (.ref C)
theorem ExMk.mono {P : Program} {w : World} {mg : Str → Option Value} {base : Heap} {j k : Nat} {n : Str} {names : List Str} (h : ExMk P w K mg base j n C names) (hk : j ≤ k) : ExMk P w K mg base k n C names := by
  obtain ⟨fI, fd, h1, h2, h3, h4, h5⟩ := h.ex
  exact ⟨fI, fd, h1, h2, h3, h4.mono hk, h5⟩
theorem DfF.append {F : Hp} : ∀ {us us2 : List (Str × V)} {es es2 : List (PD × PD)}, DfF K F us es → DfF K F us2 es2 → DfF K F (us ++ us2) (es ++ es2)
  | _, _, _, _, .nil, h => h
  | _, _, _, _, .cons a b, h => .cons a (DfF.append b h)
def xdF (names : List Str) (xs : List PD) : List (PD × PD) := ((names.zip xs).map fun p => (PyData.str p.1, p.2)).reverse
theorem xdF_df {F : Hp} : ∀ {names : List Str} {vs : List V} {xs : List PD}, DfA K F vs xs → DfF K F (names.zip vs).reverse (xdF names xs)
  | [], vs, xs, _ => by unfold xdF; simp; exact .nil
  | n :: names, [], xs, h => by cases h; unfold xdF; simp; exact .nil
  | n :: names, v :: vs, xs, h => by
    cases h with
    | @cons _ _ x xs a b =>
      have ih := xdF_df (names := names) b
      have : xdF (n :: names) (x :: xs) = xdF names xs ++ [(.str n, x)] := by unfold xdF; simp
      rw [this, List.zip_cons_cons, List.reverse_cons]
      exact DfF.append ih (.cons a .nil)
/-- raise C(e, ..) -/
def sRaise (C : Addr) (names : List Str) (u : Xd → En → Prop) (tt : TAd) : TSt := fun _ ρ => tt ρ fun as ρ1 => resFA ρ1 as fun xs => xs.length = names.length ∧ u (C, xdF names xs) ρ1
theorem LS.raise [Pn] {k : Nat} {n : Str} {names : List Str} {u : Xd → En → Prop} {tt : TAd} (hc : X.calm = true) (tk : Takes X (WD X.K u)) (M : ExMk X.prog X.w X.K X.mg X.base k n C names) (hr : Room (k + 1) X.A) (hg : Gl X n) (ha : LA X (e :: es) tt)
    (hn : names.length ≤ 1000 := by decide) (hdb : (n == ("__debug__" : Str)) = false := by decide) (he : starEach (e :: es) X.env = (false, eval e X.env) :: starEach es X.env := by rfl) (hpl : (backTo pos (starEach es X.env)).any (·.1) = false := by rfl) :
    LS X (.Raise (some (.Call (.Name n p) (e :: es) [] pos)) none pos2) (sRaise C names u tt) := by
  obtain ⟨fI, fd, h1, h2, h3, h4, h5, h6⟩ := M.ex
  refine ⟨psImp (ps_raise hc tk (pmk_oex h1 h2 h3 h4 hr h5 .nil pass0 hg h6 ha.p hdb he hpl)) fun D σ H ⟨G, ρ, F, D', R, q, k⟩ => ⟨G, ρ, F, _, R, q, fun as ρ1 vs H1 F1 q1 hl R1 s1 av => ?_⟩⟩
  obtain ⟨xs, ⟨hx, q2⟩, d⟩ := resFA_df R1 av q1
  have hv : vs.length = names.length := by rw [d.length, hx]
  refine ⟨by omega, fun a ha' => ⟨a, vs, by rw [List.append_nil], hv, h1, upd_same, fun dd H3 hd hne h3a h3d hoth => ?_⟩⟩
  have hd1 : H1 dd = none := by rw [upd_ne hne] at hd; exact hd
  refine ⟨rfl, dd, _, h3a, h3d, hd1, ?_⟩
  have eh : upd (del H3 a) dd (.xd (names.zip vs).reverse) = upd H1 dd (.xd (names.zip vs).reverse) := by
    funext b
    by_cases hb : b = dd
    · subst hb; rw [upd_same, upd_same]
    · rw [upd_ne hb, upd_ne hb]
      by_cases hba : b = a
      · subst hba; rw [del_same, ha']
      · rw [del_ne hba, hoth b hba hb, upd_ne hba]
  rw [eh]
  have g := Grow.frozen R1.fh hd1 (.xd (names.zip vs).reverse)
  exact ⟨G, ρ1, _, _, R1.grow g, ⟨rfl, .inr ⟨dd, _, rfl, upd_same, (xdF_df d).mono g.ff⟩⟩, q2⟩
/-- raise C(), C without own __init__ -/
def sRaise0 (C : Addr) (u : Xd → En → Prop) : TSt := fun _ ρ => u (C, []) ρ
theorem pmk_own0 {n newId initId B : String} {bmB : List Value} {x : Str} (F : ExcBaseFacts B newId initId bmB) (q : PySem.W.excIn X.K C bmB newId = true) (gC : X.mg x = some (.ref C)) (kC : PySem.W.keepIn X.K (.ref C) = true) (r : Raises X (.ref C)) (hg : Gl X x)
    (hdb : (x == ("__debug__" : Str)) = false := by decide) : PMk X (.Call (.Name x p) [] [] pos) (fun _ H Q => Q (.ref C) none H) := by
  intro pins s σ H Q I h
  refine wpAny_Call_Name_kw (ld_glob I hg gC (PySem.W.callWith_K0 I.kIn kC ?_) hdb)
  rw [List.nil_append]
  obtain ⟨bm, N, nm, qn, bs, hdct, sn, sub, ab, col, dd, k0, k1, k2, k3, k5, mN, hC, hN, hni, T⟩ := exc_obj I.kIn q
  refine wpAny_call_exc_subT F T hC hN hni (fun h' e hm => ?_) (Nat.zero_le _)
  exact mk_of I hm r h (I.hok.gone hm.new)
/-- such a class -/
structure Ex0 (K : PySem.W.Frag) (C : Addr) : Prop where
  ex : PySem.W.excIn K C [.type "ValueError", .type "Exception", .type "BaseException", .type "object"] "ValueError.__new__" = true
  kp : PySem.W.keepIn K (.ref C) = true
  sb : PySem.W.subIn K (.ref C) (.type "BaseException") = some true
  ty : PySem.W.typeIn K (.ref C) = some (.type "type")
theorem LS.raise0 [Pn] {n : Str} {u : Xd → En → Prop} (hc : X.calm = true) (tk : Takes X (WD X.K u)) (M : Ex0 X.K C) (hm : X.mg n = some (.ref C)) (hg : Gl X n) (hdb : (n == ("__debug__" : Str)) = false := by decide) :
    LS X (.Raise (some (.Call (.Name n p) [] [] pos)) none pos2) (sRaise0 C u) :=
  ⟨psImp (ps_raise hc tk (pmk_own0 (n := "") PySem.F.excBase_ValueError M.ex hm M.kp (raises_own M.sb M.ty) hg hdb)) fun D σ H ⟨G, ρ, F, D', R, q, k⟩ => ⟨G, ρ, F, _, R, ⟨rfl, .inl ⟨rfl, rfl⟩⟩, q⟩⟩
end
section
variable {P : Program} {w : World} {K : PySem.W.Frag} {mg : Str → Option Value} {base : Heap} {k : Nat} {fI : Addr} {fd : FuncData} {qual f1 f2 m n : Str} {st : Stmt} {C : Addr}
theorem ex_putA {a d : Addr} {H H3 : Hp} {u v : HO} (h3a : H3 a = some v) (h3d : H3 d = some u) (hoth : ∀ b, b ≠ a → b ≠ d → H3 b = H b) : upd (upd H d u) a v = H3 := by
  funext b
  by_cases hb : b = a
  · subst hb; rw [upd_same, h3a]
  · rw [upd_ne hb]
    by_cases hd : b = d
    · subst hd; rw [upd_same, h3d]
    · rw [upd_ne hd, hoth b hb hd]
def tInit (K : PySem.W.Frag) (m : Str) : TS := tDrop (tVeI K (tCons (tVar 0) (tCons (tC (.str m)) tNil)))
theorem ex_ok1 (Fn : Fun K "__init__" qual st fI fd) (Sc : FnScope ["self", f1] ["self", f1] (defScope st)) (T : OexC K C) (no1 : PySem.W.findIn K (.ref C) f1 = some none) (iC : PySem.W.findIn K (.ref C) "__init__" = some (some (.ref fI))) (tI : PySem.W.typeIn K (.ref fI) = some (.type "function")) (gm : mg n = some (.ref C))
    (hb : ∀ (cdv : Value) (A : Around) (outer : List PySem.Env) (s : Shared) (H : Hp) (E : XK), Room k (A.deeper (envOfC qual (defScope st) s.heap.objs.size fI cdv)) →
      PSs (cxOf CX0 P w K mg base ["self", f1] qual (defScope st) fI cdv A outer s H E).nox (defBody st) (tSeq (tInit K m) (tOst K f1 (tVar 0) (tVar 1))))
    (bi : Binds K fd ["self", f1] []) : ExMk P w K mg base (k + 1) n C [f1] := by
  refine ⟨fI, fd, T, iC, tI, Fn.ok Sc (fun vs H Q E h => ?_) (fun cdv A outer s H vs Q E hr h => ⟨_, hb cdv A outer s H E hr, ?_⟩), bi, gm⟩
  · obtain ⟨a, ys, rfl, hl, _⟩ := h
    simp at hl; simp [hl]
  · obtain ⟨a, ys, rfl, hl, _, ea, q⟩ := h
    match ys, hl with
    | [y], _ =>
      refine ⟨_, rfl, a, C, _, rfl, by simp, T, ea, _, rfl, _, rfl, a, C, rfl, T, no1, .inl ⟨ea, fun dx hd hne => ?_⟩⟩
      exact q dx _ hd hne (by rw [upd_same]) (by rw [upd_ne hne, upd_same]; rfl) fun b h1 h2 => by rw [upd_ne h1, upd_ne h2]
theorem ex_ok2 (Fn : Fun K "__init__" qual st fI fd) (Sc : FnScope ["self", f1, f2] ["self", f1, f2] (defScope st)) (T : OexC K C) (no1 : PySem.W.findIn K (.ref C) f1 = some none) (no2 : PySem.W.findIn K (.ref C) f2 = some none) (iC : PySem.W.findIn K (.ref C) "__init__" = some (some (.ref fI))) (tI : PySem.W.typeIn K (.ref fI) = some (.type "function")) (gm : mg n = some (.ref C))
    (hb : ∀ (cdv : Value) (A : Around) (outer : List PySem.Env) (s : Shared) (H : Hp) (E : XK), Room k (A.deeper (envOfC qual (defScope st) s.heap.objs.size fI cdv)) →
      PSs (cxOf CX0 P w K mg base ["self", f1, f2] qual (defScope st) fI cdv A outer s H E).nox (defBody st) (tSeq (tInit K m) (tSeq (tOst K f1 (tVar 0) (tVar 1)) (tOst K f2 (tVar 0) (tVar 2)))))
    (bi : Binds K fd ["self", f1, f2] []) : ExMk P w K mg base (k + 1) n C [f1, f2] := by
  refine ⟨fI, fd, T, iC, tI, Fn.ok Sc (fun vs H Q E h => ?_) (fun cdv A outer s H vs Q E hr h => ⟨_, hb cdv A outer s H E hr, ?_⟩), bi, gm⟩
  · obtain ⟨a, ys, rfl, hl, _⟩ := h
    simp at hl; simp [hl]
  · obtain ⟨a, ys, rfl, hl, _, ea, q⟩ := h
    match ys, hl with
    | [y, z], _ =>
      refine ⟨_, rfl, a, C, _, rfl, by simp, T, ea, _, rfl, _, rfl, a, C, rfl, T, no1, .inl ⟨ea, fun dx hd hne => ?_⟩⟩
      refine ⟨_, rfl, _, rfl, a, C, rfl, T, no2, .inr ⟨dx, _, upd_same, by rw [upd_ne hne, upd_same], by simp, ?_⟩⟩
      exact q dx _ hd hne (by rw [upd_ne (Ne.symm hne), upd_same]) (by rw [upd_same]; rfl) fun b h1 h2 => by rw [upd_ne h2, upd_ne h1, upd_ne h2]
end
end DL
/-! The data layer, part n-c: except clauses, some with a name, some without. -/
namespace L2
open PySem PySem.Spec PyProof.Rows
/-- a clause: its class, its name's slot, its suite -/
abbrev Cls3 := Value × Option Nat × (Addr → Value → Option Addr → TS)
/-- behind a clause the name is gone -/
def Ends.gone (D : Ends) (i : Nat) : Ends := { nx := fun σ H => D.nx (σ.set i none) H, rt := D.rt, bk := fun σ H => D.bk (σ.set i none) H, ct := fun σ H => D.ct (σ.set i none) H }
def wMix (K : PySem.W.Frag) (Wout : WX) (D : Ends) : List Cls3 → WX
  | [] => Wout
  | q :: r => fun cls d σ H => ∃ b, PySem.W.exmOne K cls q.1 = some b ∧ (b = false → wMix K Wout D r cls d σ H) ∧
    (b = true → ∀ a, H a = none → match q.2.1 with
      | none => q.2.2 a cls d D σ H
      | some i => q.2.2 a cls d (D.gone i) (σ.set i (some (.ref a))) H)
inductive HdMix (X : Cx) : List ExceptHandler → List Cls3 → Prop
  | nil : HdMix X [] []
  | bare {x : Str} {c : Value} {ts : Addr → Value → Option Addr → TS} {b₀ : Stmt} {su : List Stmt} {np p' : Pos} {hs : List ExceptHandler} {l : List Cls3} (hc : Names X x c)
      (hsu : ∀ (a : Addr) (oe : Obj) (cls : Value) (d : Option Addr) (pn : List (Addr × Obj)), Zc cls d oe → (∃ vs, oe.data = .fields vs) → PSs (X.suite a ((a, oe) :: pn)) (b₀ :: su) (ts a cls d)) (r : HdMix X hs l) :
      HdMix X (.ExceptHandler (some (.Name x np)) none (b₀ :: su) p' :: hs) ((c, none, ts) :: l)
  | named {x n : Str} {i : Nat} {c : Value} {ts : Addr → Value → Option Addr → TS} {b₀ : Stmt} {su : List Stmt} {np p' : Pos} {hs : List ExceptHandler} {l : List Cls3} (hc : Names X x c) (hi : X.N[i]? = some n) (hln : X.env.kindOf n = some .local)
      (hsu : ∀ (a : Addr) (oe : Obj) (cls : Value) (d : Option Addr) (pn : List (Addr × Obj)), Zc cls d oe → (∃ vs, oe.data = .fields vs) → PSs (X.suite a ((a, oe) :: pn)) (b₀ :: su) (ts a cls d)) (r : HdMix X hs l) :
      HdMix X (.ExceptHandler (some (.Name x np)) (some n) (b₀ :: su) p' :: hs) ((c, some i, ts) :: l)
section
variable {X : Cx} {pins : List (Addr × Obj)} {σ : St} {H : Hp} {s : Shared}
/-- an exception on the ground is looked at by the clauses, one after the other -/
theorem mix_go {Wout : WX} {D : Ends} {B : Heap} {sI : Shared} {a : Addr} {cls : Value} {d : Option Addr} (ok : X.Ok) (hs : X.stack = X.env :: X.outer) (hf : X.env.frame = some X.env.locals) (hN : X.N.Nodup) (tk : Takes X Wout) (J : Inv X pins σ H sI)
    (nb : ∀ b o, sI.heap.get? b = some o → b ∉ frs X.stack → B.get? b = some o) (up : sI.heap.UpToSlots s.heap) (os : s.os = sI.os) (ag : AllBare s.gens) (na : H a = none) (nL : a ≠ X.env.locals) (nF : a ∉ X.fs) (fl : HandSPX.FlyingZ B (X.env :: X.outer) a (Zc cls d) s.heap) :
    ∀ {hs' : List ExceptHandler} {l : List Cls3}, HdMix X hs' l → wMix X.K Wout D l cls d σ H → wpAny (model X.prog X.w) X.A (handleBy (.ref a) X.env hs') (SP X pins D) X.xe s := by
  have J3 : Inv X pins σ H s := J.landed nb fl.1 up os ag
  obtain ⟨oe, vs, he, hz, hd⟩ := fl.there
  have S3 := J3.suite he hd na nL nF
  have LT : PySem.W.Looks (model X.prog X.w) s.heap (typeOf (.ref a)) cls := fun A Q E s k q => wpAny_typeOf_ref (k _ _ he) (by rw [hz.1]; exact q)
  have test : ∀ {x : Str} {c : Value} {np : Pos}, Names X x c → ∀ {Q E : Value → Shared → Prop}, Q c s → wpAny (model X.prog X.w) (X.A.mark (some (.ref a))) (eval (.Name x np) X.env) Q E s := by
    intro x c np hc Q E q
    obtain ⟨hg, hdbg, hm | ⟨hm, hv, hnn⟩⟩ := hc
    · exact ld_glob (X := X.suite a ((a, oe) :: (X.pn ++ pins))) S3 hg hm q hdbg
    · exact ld_blt (X := X.suite a ((a, oe) :: (X.pn ++ pins))) S3 hg hm hv q hnn hdbg
  intro hs' l hk
  induction hk with
  | nil =>
    intro w
    obtain ⟨_, _, _, oe2, vs2, T, _, _, he2, _, hd2, h1, _⟩ := id fl
    refine wpAny_handleBy_nil ?_
    unfold PySem.passOn
    refine wpAny_bind (wpAny_field he2 hd2 h1 ?_)
    have nn : ¬ ((Value.ref T == Value.none) = true) := by simp
    have out : wpAny (model X.prog X.w) X.A (setFlight (.ref a) X.env.frame) (fun _ s4 => wpAny (model X.prog X.w) X.A (throw (.ref a) : Sem Flow) (SP X pins D) X.xe s4) X.xe s := by
      rw [hf]
      refine HandSPX.setFlight_upZ fl fun h4 hh4 up4 => wpAny_throw (tk _ _ ⟨a, B, sI, pins, σ, H, cls, d, rfl, J, nb, up.trans up4, .inr (.inr ?_), na, os, ag, w⟩)
      rw [hs]; exact hh4
    rw [if_neg nn]
    first | exact wpAny_bind (wpAny_pure (wpAny_bind out)) | exact wpAny_bind out
  | @bare x c ts b₀ su np p' hs2 l2 hc hsu r ih =>
    intro w
    obtain ⟨b, hb1, hno, hyes⟩ := w
    refine wpAny_handleBy_cons (codeAny_handlers_test (test hc ((PySem.W.exm_one (M := model X.prog X.w) J3.kIn LT hb1).here ?_))) (by intro q; cases q)
    cases b with
    | false => exact ih (hno rfl)
    | true =>
      refine codeAny_handlers_suite (HandSPX.lands_againZ fl fun h4 fl4 up4 => ?_)
      have J4 : Inv X pins σ H { s with heap := h4 } := J.landed nb fl4.1 (up.trans up4) os ag
      obtain ⟨oe4, vs4, he4, hz4, hd4⟩ := fl4.there
      refine wpAny_mono ((hsu a oe4 cls d (X.pn ++ pins) hz4 ⟨_, hd4⟩).run [] _ _ H _ (J4.suite he4 hd4 na nL nF) (hyes rfl a na)) (fun f s6 hsp => ?_) (fun _ _ z => z.elim)
      cases f with
      | ret u => obtain ⟨v6, σ6, H6, S6, r6, q6⟩ := hsp; exact ⟨_, _, _, S6.unsuite ok, r6, q6⟩
      | _ => obtain ⟨σ6, H6, S6, q6⟩ := hsp; exact ⟨_, _, S6.unsuite ok, q6⟩
  | @named x n i c ts b₀ su np p' hs2 l2 hc hi hln hsu r ih =>
    intro w
    obtain ⟨b, hb1, hno, hyes⟩ := w
    refine wpAny_handleBy_cons (codeAny_handlers_test (test hc ((PySem.W.exm_one (M := model X.prog X.w) J3.kIn LT hb1).here ?_))) (by intro q; cases q)
    cases b with
    | false => exact ih (hno rfl)
    | true =>
      refine codeAny_handlers_suite_as (HandSPX.lands_againZ fl fun h4 fl4 up4 => ?_)
      have J4 : Inv X pins σ H { s with heap := h4 } := J.landed nb fl4.1 (up.trans up4) os ag
      obtain ⟨oe4, vs4, he4, hz4, hd4⟩ := fl4.there
      refine store_ok (X := X.suite a ((a, oe4) :: (X.pn ++ pins))) (v := .ref a) (J4.suite he4 hd4 na nL nF) hN hi (.inl hln) rfl (fun s5 S5 => ?_) (.inr hln)
      refine wpAny_mono ((hsu a oe4 cls d (X.pn ++ pins) hz4 ⟨_, hd4⟩).run [] s5 _ H _ S5 (hyes rfl a na)) (fun f s6 hsp => ?_) (fun _ _ z => z.elim)
      cases f with
      | ret u => obtain ⟨v6, σ6, H6, S6, r6, q6⟩ := hsp; exact gone_ok (S6.unsuite ok) hN hi hln fun s7 J7 => ⟨_, _, _, J7, r6, q6⟩
      | _ => obtain ⟨σ6, H6, S6, q6⟩ := hsp; exact gone_ok (S6.unsuite ok) hN hi hln fun s7 J7 => ⟨_, _, J7, q6⟩
theorem ps_try_mix {body : List Stmt} {h₀ : ExceptHandler} {hds : List ExceptHandler} {l : List Cls3} {pos : Pos} {tb : WX → TS} {Wout : WX} (hs : X.stack = X.env :: X.outer) (hf : X.env.frame = some X.env.locals) (hN : X.N.Nodup) (tk : Takes X Wout)
    (hb : ∀ (W : WX) (pn : List (Addr × Obj)) (xe : Value → Shared → Prop), Takes (X.tr pn xe) W → PassesOwn (model X.prog X.w) X.A X.env xe → PSs (X.tr pn xe) body (tb W))
    (hh : HdMix X (h₀ :: hds) l) : PS X (.Try body (h₀ :: hds) [] [] pos) (fun D σ H => tb (wMix X.K Wout D l) D σ H) := by
  refine ⟨fun pins s σ H D I h => wpAny_Try_except ?_⟩
  have ok := I.ok
  have hfr : X.A.frames = some (X.env :: X.outer) := by rw [ok.frames, hs]
  refine wpAny_mono ((hb (wMix X.K Wout D l) (X.pn ++ pins) (fun e s₁ => wpAny (model X.prog X.w) X.A (noteFrame e X.env) (fun _ s₂ => wpAny (model X.prog X.w) X.A (setFlight e none) (fun _ s₃ =>
    wpAny (model X.prog X.w) X.A (handleBy e X.env (h₀ :: hds)) (SP X pins D) X.xe s₃) X.xe s₂) X.xe s₁) (fun u s' xx => ?_) PassesOwn.looking).run [] s σ H D (I.toTry _) h) (fun f s1 hsp => ?_) (fun e s1 he => he)
  · obtain ⟨a, B, sI, pins', σ', H', cls, d, rfl, J', nb, up, sky, na, os, ag, w⟩ := xx
    have J : Inv X pins σ' H' sI := J'.ofTry ok
    have sky' : Sky B (X.env :: X.outer) a (Zc cls d) X.env.locals s'.heap := by rw [← hs]; exact sky
    refine Sky.land Zc.steady hfr hf sky' fun h3 fl3 up3 => ?_
    obtain ⟨oe3, vs3, he3, hz3, hd3⟩ := fl3.there
    have nfr : a ∉ frs (X.env :: X.outer) := fun hm => by
      obtain ⟨_, o', e', hnf⟩ := Heap.FunFrames.mem fl3.2.2.1 hm
      rw [he3] at e'; cases e'
      exact hnf _ hd3
    refine mix_go (s := { s' with heap := h3 }) ok hs hf hN tk J nb (up.trans up3) os ag na (fun z => nfr (List.mem_filterMap.mpr ⟨X.env, List.mem_cons_self, by rw [hf, z]⟩)) (fun hm => ?_) fl3 hh w
    obtain ⟨e, he, q⟩ := List.mem_filterMap.mp hm
    exact nfr (List.mem_filterMap.mpr ⟨e, List.mem_cons_of_mem _ he, q⟩)
  · cases f with
    | ret u => obtain ⟨v, σ', H', J', r, q⟩ := hsp; exact ⟨v, σ', H', J'.ofTry ok, r, q⟩
    | next => obtain ⟨σ', H', J', q⟩ := hsp; exact wpAny_execs_nil ⟨σ', H', J'.ofTry ok, q⟩
    | brk => obtain ⟨σ', H', J', q⟩ := hsp; exact ⟨σ', H', J'.ofTry ok, q⟩
    | cont => obtain ⟨σ', H', J', q⟩ := hsp; exact ⟨σ', H', J'.ofTry ok, q⟩
end
end L2
namespace DL
open PySem L2 PyProof.Rows
/-- a caught error as data -/
def excV (a : Addr) : Option Addr → Xd → PD
  | none, x => .dict [(.bool true, .int (x.1 : Int)), (.bool true, .int (a : Int)), (.bool true, .none)]
  | some dd, x => .dict ((.bool true, .int (x.1 : Int)) :: (.bool true, .int (a : Int)) :: (.bool true, .int (dd : Int)) :: x.2)
theorem XcOk.df {K : PySem.W.Frag} {F : Hp} {x : Xd} {cls : Value} {d : Option Addr} (h : XcOk K F x cls d) (a : Addr) : Df K F (.ref a) (excV a d x) ∧ (d = none → x.2 = []) := by
  obtain ⟨_, ⟨rfl, h⟩ | ⟨dd, us, rfl, h1, h2⟩⟩ := h
  · exact ⟨.ex0, fun _ => h⟩
  · exact ⟨.ex1 h1 h2, fun z => by cases z⟩
theorem dict_keys {K : PySem.W.Frag} {F : Hp} : ∀ {kvs : List (Key × V)} {es : List (PD × PD)}, DfK K F kvs es → ∀ {b : Bool} {y : PD} {r : List (PD × PD)}, es ≠ (.bool b, y) :: r
  | _, _, .nil, b, y, r => by simp
  | (k, v) :: vs, _, .cons _ _, b, y, r => by cases k <;> simp [keyD]
/-- a slot that holds a caught error -/
theorem exc_inv {K : PySem.W.Frag} {F : Hp} {v : V} {a : Addr} {d : Option Addr} {x : Xd} (h : Df K F v (excV a d x)) : v = .ref a ∧ (d = none ∨ ∃ dd us, d = some dd ∧ F dd = some (.xd us) ∧ DfF K F us x.2) := by
  cases d with
  | none =>
    unfold excV at h
    cases h with
    | dk _ h2 => exact absurd rfl (dict_keys h2)
    | ex0 => exact ⟨rfl, .inl rfl⟩
  | some dd =>
    unfold excV at h
    cases h with
    | dk _ h2 => exact absurd rfl (dict_keys h2)
    | ex1 h1 h2 => exact ⟨rfl, .inr ⟨_, _, rfl, h1, h2⟩⟩
def DE.gone (D : DE) (i : Nat) : DE := { nx := fun ρ => D.nx (ρ.set i none), rt := D.rt, bk := fun ρ => D.bk (ρ.set i none), ct := fun ρ => D.ct (ρ.set i none) }
/-- a clause over data: the classes that it is looked at with (true: it takes them), its name's slot, its suite -/
structure Hd3 where
  subs : List (Addr × Bool)
  slot : Option Nat
  ts : Addr → Addr → Option Addr → TSt
def uMix (D : DE) : List Hd3 → Xd → En → Prop
  | [], _, _ => False
  | q :: r, x, ρ => ∃ b, (x.1, b) ∈ q.subs ∧ (b = false → uMix D r x ρ) ∧ (b = true → ∀ a d, (d = none → x.2 = []) → match q.slot with
      | none => q.ts a x.1 d D ρ
      | some i => q.ts a x.1 d (D.gone i) (ρ.set i (some (.d (excV a d x)))))
def sTry (tb : (Xd → En → Prop) → TSt) (l : List Hd3) : TSt := fun D ρ => tb (uMix D l) D ρ
/-- the clauses' rules -/
inductive LHd (X : Cx) : List ExceptHandler → List Hd3 → List Value → Prop
  | nil : LHd X [] [] []
  | bare {x : Str} {c : Value} {subs : List (Addr × Bool)} {ts : Addr → Addr → Option Addr → TSt} {b₀ : Stmt} {su : List Stmt} {np p' : Pos} {hs : List ExceptHandler} {l : List Hd3} {cs : List Value} (hc : Names X x c) (hsub : ∀ p ∈ subs, PySem.W.exmOne X.K (.ref p.1) c = some p.2)
      (hsu : ∀ [Pn] (a : Addr) (oe : Obj) (C : Addr) (d : Option Addr) (pn : List (Addr × Obj)), Zc (.ref C) d oe → (∃ vs, oe.data = .fields vs) → LSs (X.suite a ((a, oe) :: pn)) (b₀ :: su) (ts a C d)) (r : LHd X hs l cs) :
      LHd X (.ExceptHandler (some (.Name x np)) none (b₀ :: su) p' :: hs) (⟨subs, none, ts⟩ :: l) (c :: cs)
  | named {x n : Str} {i : Nat} {c : Value} {subs : List (Addr × Bool)} {ts : Addr → Addr → Option Addr → TSt} {b₀ : Stmt} {su : List Stmt} {np p' : Pos} {hs : List ExceptHandler} {l : List Hd3} {cs : List Value} (hc : Names X x c) (hsub : ∀ p ∈ subs, PySem.W.exmOne X.K (.ref p.1) c = some p.2)
      (hi : X.N[i]? = some n) (hln : X.env.kindOf n = some .local)
      (hsu : ∀ [Pn] (a : Addr) (oe : Obj) (C : Addr) (d : Option Addr) (pn : List (Addr × Obj)), Zc (.ref C) d oe → (∃ vs, oe.data = .fields vs) → LSs (X.suite a ((a, oe) :: pn)) (b₀ :: su) (ts a C d)) (r : LHd X hs l cs) :
      LHd X (.ExceptHandler (some (.Name x np)) (some n) (b₀ :: su) p' :: hs) (⟨subs, some i, ts⟩ :: l) (c :: cs)
/-- a suite's reading, whatever the walk's entry -/
def tSu (K : PySem.W.Frag) (ts : Addr → Addr → Option Addr → TSt) : Addr → Value → Option Addr → TS := fun a cls d D σ H => ∃ (P : Pn) (C : Addr), cls = .ref C ∧ @liftS P K (ts a C d) D σ H
def cl3 (K : PySem.W.Frag) : List Hd3 → List Value → List Cls3
  | q :: r, c :: cs => (c, q.slot, tSu K q.ts) :: cl3 K r cs
  | _, _ => []
theorem LHd.mix {X : Cx} {hs : List ExceptHandler} {l : List Hd3} {cs : List Value} (h : LHd X hs l cs) : HdMix X hs (cl3 X.K l cs) := by
  induction h with
  | nil => exact .nil
  | bare hc hsub hsu r ih =>
    refine .bare hc (fun a oe cls d pn hz hf => ⟨fun pins s σ H D I h => ?_⟩) ih
    obtain ⟨P, C, rfl, h⟩ := h
    exact (@hsu P a oe C d pn hz hf).p.run pins s σ H D I h
  | named hc hsub hi hln hsu r ih =>
    refine .named hc hi hln (fun a oe cls d pn hz hf => ⟨fun pins s σ H D I h => ?_⟩) ih
    obtain ⟨P, C, rfl, h⟩ := h
    exact (@hsu P a oe C d pn hz hf).p.run pins s σ H D I h
section
variable {K : PySem.W.Frag} {G : Gm} {ρ : En} {σ : L2.St} {F F' H H' : Hp}
/-- the same frame, its frozen part as it stands now -/
def Gm.now (G : Gm) (F : Hp) : Gm := { G with F0 := F }
theorem slot_now {l : Lc} {F0 : Hp} {s : Option (Option V)} : SlotOk K (G.now F0) F H l s ↔ SlotOk K G F H l s := by
  have ow : ∀ {t : Option Nat} {a : Addr}, OwnP (G.now F0) t a ↔ OwnP G t a := fun {t a} => by cases t <;> exact Iff.rfl
  cases hl : l.own with
  | true =>
    rw [own_slot hl, own_slot hl]
    exact ⟨fun ⟨a, e, z⟩ => ⟨a, e, z.nf, ow.mp z.ow, z.ob⟩, fun ⟨a, e, z⟩ => ⟨a, e, z.nf, ow.mpr z.ow, z.ob⟩⟩
  | false =>
    rcases not_own hl with ⟨x, rfl⟩ | ⟨v, rfl⟩
    · exact Iff.rfl
    · exact Iff.rfl
theorem ns_now {F0 : Hp} {t : Option Nat} {b : Addr} {xs : List PD} : Ns K (G.now F0) F H t b xs ↔ Ns K G F H t b xs := ⟨fun z => ⟨z.nf, z.ow, z.ob⟩, fun z => ⟨z.nf, z.ow, z.ob⟩⟩
theorem frs_now {l : Lc} {F0 : Hp} {a : Addr} : Frs K (G.now F0) F H ρ σ l a ↔ Frs K G F H ρ σ l a := ⟨fun z => ⟨z.hf, z.hn, fun b xs hb => ⟨ns_now.mp (z.ns b xs hb).1, (z.ns b xs hb).2⟩⟩, fun z => ⟨z.hf, z.hn, fun b xs hb => ⟨ns_now.mpr (z.ns b xs hb).1, (z.ns b xs hb).2⟩⟩⟩
theorem rs_now {l : Lc} {F0 : Hp} {v : V} : RsOk K (G.now F0) F H ρ σ l v ↔ RsOk K G F H ρ σ l v := by
  have ow : ∀ {t : Option Nat} {a : Addr}, OwnP (G.now F0) t a ↔ OwnP G t a := fun {t a} => by cases t <;> exact Iff.rfl
  cases hl : l.own with
  | true =>
    rw [RsOk.ref_own hl, RsOk.ref_own hl]
    exact ⟨fun ⟨a, e, t, z, q⟩ => ⟨a, e, t, ⟨z.nf, ow.mp z.ow, z.ob⟩, frs_now.mp q⟩, fun ⟨a, e, t, z, q⟩ => ⟨a, e, t, ⟨z.nf, ow.mpr z.ow, z.ob⟩, frs_now.mpr q⟩⟩
  | false =>
    rcases not_own hl with ⟨x, rfl⟩ | ⟨v, rfl⟩
    · exact Iff.rfl
    · exact Iff.rfl
theorem Rel.toNow {P : Pn} (R : @Rel P K G ρ F σ H) : @Rel (Pn.at_ (G.now F)) K (G.now F) ρ F σ H :=
  @Rel.mk (Pn.at_ (G.now F)) _ _ _ _ _ _ R.fh (Same.refl _) R.fr (fun b h1 h2 => absurd h2 h1) R.ih R.len (fun i l e => slot_now.mpr (R.sl i l e)) R.ds Pins.refl (fun i l b xs e h => ⟨ns_now.mpr (R.ns i l b xs e h).1, (R.ns i l b xs e h).2⟩)
theorem now_ff {P : Pn} {ρ' : En} {σ' : L2.St} (R' : @Rel P K (G.now F) ρ' F' σ' H') : Same F F' := R'.ff
theorem now_nw {P : Pn} {ρ' : En} {σ' : L2.St} (R' : @Rel P K (G.now F) ρ' F' σ' H') : (∀ b, F' b ≠ none → F b = none → G.H0 b = none ∨ ∃ us, F' b = some (.tup us)) ∧ Same F' H' ∧ (∀ b o, G.H0 b = some o → b ∉ G.io → H' b = some o) ∧ (∀ a, a ∈ G.io → H' a ≠ none ∧ G.H0 a ≠ none) ∧ σ'.length = ρ'.length ∧
    (∀ (i : Nat) (l : Lc), ρ'[i]? = some (some l) → SlotOk K G F' H' l σ'[i]?) ∧ (∀ (i j : Nat) (l m : Lc) (v : V), ρ'[i]? = some (some l) → ρ'[j]? = some (some m) → l.own = true → m.own = true → σ'[i]? = some (some v) → σ'[j]? = some (some v) → i = j) ∧ ∀ (i : Nat) (l : Lc) (b : Addr) (xs : List PD), ρ'[i]? = some (some l) → (b, xs) ∈ l.fp → Ns K G F' H' l.tag b xs ∧ ∀ (j : Nat) (m : Lc), ρ'[j]? = some (some m) → (m.own = true → σ'[j]? ≠ some (some (.ref b))) ∧ ∀ ys, (b, ys) ∈ m.fp → j = i :=
  ⟨R'.nw, R'.fh, R'.fr, R'.ih, R'.len, fun i l e => slot_now.mp (R'.sl i l e), R'.ds, fun i l b xs e h => ⟨ns_now.mp (R'.ns i l b xs e h).1, (R'.ns i l b xs e h).2⟩⟩
theorem now_back [Pn] {ρ' : En} {σ' : L2.St} (R : Rel K G ρ F σ H) (sf : Same F F') (h : (∀ b, F' b ≠ none → F b = none → G.H0 b = none ∨ ∃ us, F' b = some (.tup us)) ∧ Same F' H' ∧ (∀ b o, G.H0 b = some o → b ∉ G.io → H' b = some o) ∧ (∀ a, a ∈ G.io → H' a ≠ none ∧ G.H0 a ≠ none) ∧ σ'.length = ρ'.length ∧
    (∀ (i : Nat) (l : Lc), ρ'[i]? = some (some l) → SlotOk K G F' H' l σ'[i]?) ∧ (∀ (i j : Nat) (l m : Lc) (v : V), ρ'[i]? = some (some l) → ρ'[j]? = some (some m) → l.own = true → m.own = true → σ'[i]? = some (some v) → σ'[j]? = some (some v) → i = j) ∧ ∀ (i : Nat) (l : Lc) (b : Addr) (xs : List PD), ρ'[i]? = some (some l) → (b, xs) ∈ l.fp → Ns K G F' H' l.tag b xs ∧ ∀ (j : Nat) (m : Lc), ρ'[j]? = some (some m) → (m.own = true → σ'[j]? ≠ some (some (.ref b))) ∧ ∀ ys, (b, ys) ∈ m.fp → j = i) : Rel K G ρ' F' σ' H' := by
  obtain ⟨h1, h2, h3, h4, h5, h6, h7, h8⟩ := h
  refine ⟨h2, R.ff.trans sf, h3, fun b q1 q2 => ?_, h4, h5, h6, h7, R.ok, h8⟩
  cases e : F b with
  | none => exact h1 b q1 e
  | some u =>
    rcases R.nw b (by rw [e]; simp) q2 with z | ⟨us, z⟩
    · exact .inl z
    · exact .inr ⟨us, sf _ _ z⟩
theorem Rel.ofNow {P P' : Pn} {ρ' : En} {σ' : L2.St} (R : @Rel P K G ρ F σ H) (R' : @Rel P' K (G.now F) ρ' F' σ' H') : @Rel P K G ρ' F' σ' H' ∧ Same F F' :=
  ⟨@now_back _ _ _ _ _ _ _ _ P _ _ R (now_ff R') (now_nw R'), now_ff R'⟩
theorem Rel.rootN {G0 G' : Gm} {P : Pn} (R : @Rel P K G ρ F σ H) {ρ' : En} {σ' : L2.St} (R' : @Rel (Pn.at_ (G.now F)) K G' ρ' F' σ' H') : @Rel P K G ρ' F' σ' H' ∧ Same F F' :=
  R.ofNow (Rel.root (@Rel.ok (Pn.at_ (G.now F)) _ _ _ _ _ _ R') R')
theorem Rel.gone [Pn] (R : Rel K G ρ F σ H) (i : Nat) : Rel K G (ρ.set i none) F (σ.set i none) H := by
  refine R.weak (by rw [List.length_set, List.length_set]; exact R.len) fun j l e => ?_
  rcases set_get e with ⟨_, _, z⟩ | ⟨hj, e⟩
  · cases z
  · exact ⟨e, List.getElem?_set_ne (Ne.symm hj)⟩
theorem CtOk.toNow {P : Pn} {D' : DE} {D : Ends} (R : @Rel P K G ρ F σ H) (k : @CtOk P K G F D' D) : @CtOk (Pn.at_ (G.now F)) K (G.now F) F D' D :=
  @CtOk.mk (Pn.at_ (G.now F)) _ _ _ _ _ (fun ρ σ H F' h R' s => @CtOk.nx P _ _ _ _ _ k _ _ _ _ h (R.ofNow R').1 s) (fun l ρ v σ H F' h R' s r => @CtOk.rt P _ _ _ _ _ k _ _ _ _ _ _ h (R.ofNow R').1 s (rs_now.mp r)) (fun ρ σ H F' h R' s => @CtOk.bk P _ _ _ _ _ k _ _ _ _ h (R.ofNow R').1 s) fun ρ σ H F' h R' s => @CtOk.ct P _ _ _ _ _ k _ _ _ _ h (R.ofNow R').1 s
theorem CtOk.gone [Pn] {D' : DE} {D : Ends} (k : CtOk K G F D' D) (i : Nat) : CtOk K G F (D'.gone i) (D.gone i) :=
  ⟨fun ρ σ H F' h R s => k.nx _ _ _ _ h (R.gone i) s, k.rt, fun ρ σ H F' h R s => k.bk _ _ _ _ h (R.gone i) s, fun ρ σ H F' h R s => k.ct _ _ _ _ h (R.gone i) s⟩
end
/-- what the clauses wish, of data and of the machine -/
theorem wMix_of {X : Cx} {G : Gm} {F : Hp} {D' : DE} {D : Ends} [Pn] (k : CtOk X.K G F D' D) {x : Xd} {cls : Value} {d : Option Addr} {ρ : En} {σ : L2.St} {H : Hp} (R : Rel X.K G ρ F σ H) (xc : XcOk X.K F x cls d) :
    ∀ {hs : List ExceptHandler} {l : List Hd3} {cs : List Value}, LHd X hs l cs → uMix D' l x ρ → wMix X.K (fun _ _ _ _ => False) D (cl3 X.K l cs) cls d σ H := by
  intro hs l cs h
  induction h with
  | nil => exact fun z => z.elim
  | bare hc hsub hsu r ih =>
    rintro ⟨b, hb, h1, h2⟩
    refine ⟨b, by rw [xc.1]; exact hsub _ hb, fun z => ih (h1 z), fun z a ha => ?_⟩
    have := h2 z a d (xc.df a).2
    exact ⟨_, x.1, xc.1, G, ρ, F, D', R, this, k⟩
  | @named _ _ i _ _ _ _ _ _ _ _ _ _ hc hsub hi hln hsu r ih =>
    rintro ⟨b, hb, h1, h2⟩
    refine ⟨b, by rw [xc.1]; exact hsub _ hb, fun z => ih (h1 z), fun z a ha => ?_⟩
    have := h2 z a d (xc.df a).2
    exact ⟨_, x.1, xc.1, G, ρ.set i (some (.d (excV a d x))), F, D'.gone i, R.store_d i (xc.df a).1, this, k.gone i⟩
theorem LS.try_ [Pn] {X : Cx} {body : List Stmt} {h₀ : ExceptHandler} {hds : List ExceptHandler} {l : List Hd3} {cs : List Value} {pos : Pos} {tb : (Xd → En → Prop) → TSt} (hs : X.stack = X.env :: X.outer) (hf : X.env.frame = some X.env.locals) (hN : X.N.Nodup)
    (hb : ∀ [Pn] (u : Xd → En → Prop) (pn : List (Addr × Obj)) (xe : Value → Shared → Prop), Takes (X.tr pn xe) (WD X.K u) → PassesOwn (model X.prog X.w) X.A X.env xe → LSs (X.tr pn xe) body (tb u))
    (hh : LHd X (h₀ :: hds) l cs) : LS X (.Try body (h₀ :: hds) [] [] pos) (sTry tb l) := by
  refine ⟨psImp (ps_try_mix (tb := fun W D σ H => ∃ (P : Pn) (u : Xd → En → Prop), (∀ cls d σ H, @WD P X.K u cls d σ H → W cls d σ H) ∧ @liftS P X.K (tb u) D σ H) (Wout := fun _ _ _ _ => False) hs hf hN takes_none5
    (fun W pn xe tk hp => ⟨fun pins s σ H D I h => ?_⟩) hh.mix) fun D σ H h => ?_⟩
  · obtain ⟨P, u, hw, h⟩ := h
    exact (@hb P u pn xe (tk.imp hw) hp).p.run pins s σ H D I h
  · obtain ⟨G, ρ, F, D', R, q, k⟩ := h
    refine ⟨Pn.at_ (G.now F), uMix D' l, ?_, G.now F, ρ, F, D', R.toNow, q, k.toNow R⟩
    rintro cls d σ1 H1 ⟨G', ρ1, F1, x, R', xc, hu⟩
    obtain ⟨R1, s1⟩ := Rel.rootN (G0 := G) R R'
    exact wMix_of (k.mono s1) R1 xc hh hu
end DL
/-! The data layer, part n-d: a caught error looked at; methods and operators that may raise. -/
namespace PySem.W
open PySem PySem.Spec PySem.Calls PyProof.Rows
section
variable {prog : Program} {w : World} {A : Around} {E : Value → Shared → Prop} {K : Frag} {x D : Addr} {ox : Obj} {od : Option Obj}
/-- what __class__ is of an instance of D, own attributes or none -/
theorem cls_found (hd : (clsIn K D).isSome = true) (ha : findIn K (.ref D) "__class__" = some (some (.builtin "object.__class__"))) (hn : specialIn K (.builtin "object.__class__") "__get__" = some (some (.builtin "getset_descriptor.__get__")))
    (ht : takesIn K (.builtin "object.__class__") = some true) : findObj K D od "__class__" = some (.bind (.builtin "getset_descriptor.__get__") (.builtin "object.__class__")) := by
  obtain ⟨cd, hc⟩ := Option.isSome_iff_exists.mp hd
  simp only [findObj, hc, ha, hn, ht, Option.bind_some]
/-- .. read off an exception -/
theorem exc_class {Q : Option Value → Shared → Prop} {s : Shared} (T : L2.ExcC K D) (X : K.In s.heap) (I : InstAt s.heap x ox D od) (h : Q (some (.ref D)) { s with toks := s.toks + 1 }) : wpAny (model prog w) A (getAttr? (.ref x) "__class__") Q E s := by
  obtain ⟨cd, hcd, _⟩ := any_some T.hd
  have f0 := cls_found (od := od) (by rw [hcd]; rfl) T.ha T.hn T.ht
  obtain ⟨hp, g, dr, t, os⟩ := s
  have ty := I.type (M := model prog w)
  have isx : Looks (model prog w) hp (isInstance (.ref x) (.type "BaseException")) true := ty.andThen (looks_subIn X T.hs)
  have look := looks_find (M := model prog w) X I f0
  have o2 : (Value.builtin "BaseException.__getattribute__" == Value.builtin "object.__getattribute__") = false := by decide +kernel
  have other : (onTheHeap (Value.ref D) && Value.builtin "BaseException.__getattribute__" == Value.builtin "object.__getattribute__") = false := by rw [o2, Bool.and_false]
  unfold getAttr? getAttrBy? getAttrBy
  refine wpAny_bind (wpAny_mkText (wpAny_bind (wpAny_attempt (wpAny_holding (wpAny_bind (ty.at (wpAny_bind ((looks_findIn X T.hg).at ?_))))))))
  show wpAny _ _ (ite (_ = true) _ _) _ _ _
  rw [other, if_neg (by decide)]
  unfold getAttrByItsOwn hookBefore
  refine wpAny_bind ?_
  rw [if_pos (show onTheHeap (Value.ref D) = true from rfl)]
  refine (looks_findIn X T.hk).at (wpAny_bind (wpAny_attempt (wpAny_holding ?_)))
  unfold callGetattribute
  rw [if_neg (show ¬ ((false && onTheHeap (Value.builtin "BaseException.__getattribute__")) = true) by decide)]
  unfold boundAndCalled
  rw [PySem.F.excAttr_ValueError.ga.bind (.ref x)]
  refine wpAny_bind (wpAny_pure (wpAny_call (codeAny_call_builtin PySem.F.excAttr_ValueError.ga.plain PySem.F.entry_bexc_ga ?_)))
  refine @check_slot (model prog w) _ _ ⟨hp, g, dr, t + 1, os⟩ "BaseException.__getattribute__" "BaseException" "__getattribute__" (.ref x) [.str "__class__" t] [] _ (by decide +kernel) (by decide +kernel) isx (PySem.F.args_bexc_ga _ _) ?_
  unfold Builtin.«object.__getattribute__»
  refine wpAny_bind (wpAny_of_eq (a := ((Value.ref x : Value), [Value.str "__class__" t])) (by first | rfl | (simp only [slotArgs]; rfl)) (wpAny_bind (wpAny_pure (wpAny_bind (ty.at (wpAny_bind (look.at ?_)))))))
  refine wpAny_bind (wpAny_holding (wpAny_call (class_get (s := ⟨hp, g, dr, t + 1, os⟩) (ox := ox) (od := od) X I T.hm ?_)))
  refine wpAny_pure ?_
  show wpAny _ _ (handedOut (.ref D)) _ _ _
  rw [handedOut_of (v := .ref D) rfl]
  first
    | exact wpAny_pure (wpAny_pure h)
    | exact wpAny_pure h
    | exact wpAny_pure (wpAny_bind (wpAny_pure (wpAny_pure h)))
theorem exc_kit (T : L2.ExcC K D) : KitX K (.ref x) (.ref D) (fun h => InstAt h x ox D od) := by
  obtain ⟨cd, hcd, _⟩ := any_some T.hd
  unfold clsIn at hcd
  split at hcd
  · rename_i c' d' cd' sl' ho
    refine ⟨fun _ _ _ I => I.type, fun _ _ X _ => ?_, fun h tp dd its n sl X htp => ?_, fun X I k => exc_class T X I k⟩
    · intro A' Q' E' s' k q
      exact wpAny_bind (wpAny_loadPart (k _ _ (X _ _ ho)) (wpAny_pure q))
    · refine Bool.eq_false_iff.mpr fun q => ?_
      obtain rfl : D = tp := Value.ref.inj (beq_iff_eq.mp q)
      cases (X _ _ ho).symm.trans htp
  · cases hcd
end
end PySem.W
namespace DL
open PySem L2 PyProof.Rows StX PySem.Spec
section
variable {X : Cx} {a C C0 : Addr} {d : Option Addr} {oe : Obj} {pn : List (Addr × Obj)} {e e2 : Expr} {pos p : Pos} {i : Nat} {f : Str} {b : Bool} {c : V} {cv : Value}
/-- e.f, e the caught error in slot i -/
def dXf (C0 : Addr) (a C : Addr) (d : Option Addr) (i : Nat) (f : Str) : TD := fun ρ Q => match ρ[i]? with
  | some (some (.d v)) => C = C0 ∧ ∃ x y, v = excV a d (C, x) ∧ (d = none → x = []) ∧ fldP x f = some y ∧ Q y ρ
  | _ => False
theorem LD.xf [Pn] (T : XfC X.K C0) (hno : PySem.W.findIn X.K (.ref C0) f = some none) (hz : Zc (.ref C) d oe) (hf : ∃ vs, oe.data = .fields vs) (he : PE (X.suite a ((a, oe) :: pn)) e (tVar i)) (hb : attributeBase e f X.env (eval e X.env) = eval e X.env := by rfl) :
    LD (X.suite a ((a, oe) :: pn)) (.Attribute e f pos) (dXf C0 a C d i f) := by
  by_cases hC : C = C0
  · subst hC
    refine ⟨peImp (pe_xf T hno hz hf he hb) fun σ H Q ⟨G, ρ, F, Q', R, q, k⟩ => ?_⟩
    unfold dXf at q
    split at q
    · rename_i v er
      obtain ⟨_, x, y, rfl, hd, hy, q⟩ := q
      obtain ⟨u, eu, du⟩ := R.sl i _ er
      obtain ⟨rfl, hx⟩ := exc_inv du
      rcases hx with rfl | ⟨dd, us, rfl, h1, h2⟩
      · rw [hd rfl] at hy; cases hy
      · obtain ⟨w, hw, dw⟩ := fld_df h2 hy
        exact ⟨_, eu, rfl, rfl, dd, us, w, rfl, R.fh _ _ h1, hw, k _ _ _ _ _ q R (Same.refl _) dw⟩
    · exact False.elim q
  · refine ⟨⟨fun pins s σ H Q I ⟨G, ρ, F, Q', R, q, k⟩ => ?_⟩⟩
    unfold dXf at q
    split at q
    · exact absurd q.1 hC
    · exact False.elim q
/-- isinstance(e, c), e the caught error in slot i -/
def dXi (C0 : Addr) (b : Bool) (a C : Addr) (d : Option Addr) (i : Nat) : TD := fun ρ Q => match ρ[i]? with
  | some (some (.d v)) => C = C0 ∧ ∃ x, v = excV a d (C, x) ∧ Q (.bool b) ρ
  | _ => False
def rIsD (K : PySem.W.Frag) (D a : Addr) (d : Option Addr) : List V → Hp → VK → Prop := fun xs H Q => ∃ (c : V) (cv : Value) (b : Bool), xs = [.ref a, c] ∧ (∀ u, RelV c u → u = cv) ∧ PySem.W.kitOne K (.ref D) cv = some b ∧ (d = none ∨ ∃ dd us, d = some dd ∧ H dd = some (.xd us)) ∧ Q (.bl b) H
theorem call_isD (T : ExcC X.K C) (hz : Zc (.ref C) d oe) (hf : ∃ vs, oe.data = .fields vs) : CallR (X.suite a ((a, oe) :: pn)) (.builtin "isinstance") (rIsD X.K C a d) := by
  intro pins s σ H xs us Q I r h
  obtain ⟨c, cv, b, rfl, hcv, e, hd, q⟩ := h
  cases r with | cons rx rr => cases rr with | cons rt rr =>
    cases rr
    cases rx
    obtain rfl := hcv _ rt
    obtain ⟨hget, _⟩ := I.pin (a, oe) (List.mem_append.mpr (.inl List.mem_cons_self))
    obtain ⟨vs, hv⟩ := hf
    have J : ∃ od, PySem.W.InstAt s.heap a oe C od := by
      rcases hd with rfl | ⟨dd, us2, rfl, hdd⟩
      · refine ⟨none, hget, hz.1, by unfold PySem.W.notCls; rw [hv], ?_⟩
        rw [hz.2]; trivial
      · obtain ⟨mA, hns, _⟩ : ObjOk X.prog X.w H s.heap dd (.xd us2) := I.hok dd _ hdd
        obtain ⟨od, ho, _⟩ := lookIn_ns hns
        exact ⟨some od, hget, hz.1, by unfold PySem.W.notCls; rw [hv], by rw [hz.2]; exact ho⟩
    obtain ⟨od, J⟩ := J
    exact PySem.W.kia_one (PySem.W.exc_kit T) I.kIn J e (fun z => nomatch z) fun tk => ⟨.bl b, H, I.kept (t' := tk) fun _ _ z => z, rfl, q⟩
theorem LD.xi [Pn] (T : ExcC X.K C0) (hk : PySem.W.kitOne X.K (.ref C0) cv = some b) (hcv : ∀ u, RelV c u → u = cv) (hz : Zc (.ref C) d oe) (hf : ∃ vs, oe.data = .fields vs) (hg : Gl X "isinstance") (hm : X.mg "isinstance" = none)
    (he : PE (X.suite a ((a, oe) :: pn)) e (tVar i)) (he2 : PE (X.suite a ((a, oe) :: pn)) e2 (tC c))
    (hs : starEach [e, e2] X.env = (false, eval e X.env) :: starEach [e2] X.env := by rfl) (hpl : (backTo pos (starEach [e2] X.env)).any (·.1) = false := by rfl) (hs2 : starEach [e2] X.env = (false, eval e2 X.env) :: starEach [] X.env := by rfl) :
    LD (X.suite a ((a, oe) :: pn)) (.Call (.Name "isinstance" p) [e, e2] [] pos) (dXi C0 b a C d i) := by
  by_cases hC : C = C0
  · subst hC
    refine ⟨peImp (pe_callB (call_isD T hz hf) hg hm (by decide +kernel) (pa_cons he (pa_cons he2 pa_nil hs2) hs) (by decide) (by decide) hs hpl) fun σ H Q ⟨G, ρ, F, Q', R, q, k⟩ => ?_⟩
    unfold dXi at q
    split at q
    · rename_i v er
      obtain ⟨_, x, rfl, q⟩ := q
      obtain ⟨u, eu, du⟩ := R.sl i _ er
      obtain ⟨rfl, hx⟩ := exc_inv du
      refine ⟨_, eu, c, cv, b, rfl, hcv, hk, ?_, k _ _ _ _ _ q R (Same.refl _) (.bl _)⟩
      rcases hx with h | ⟨dd, us, h0, h1, _⟩
      · exact .inl h
      · exact .inr ⟨dd, us, h0, R.fh _ _ h1⟩
    · exact False.elim q
  · refine ⟨⟨fun pins s σ H Q I ⟨G, ρ, F, Q', R, q, k⟩ => ?_⟩⟩
    unfold dXi at q
    split at q
    · exact absurd q.1 hC
    · exact False.elim q
theorem takesF [Pn] : Takes X (WD X.K fun _ _ => False) := Takes.imp takes_none5 fun _ _ _ _ ⟨_, _, _, _, _, _, h⟩ => h
theorem pe_gcls {n : Str} {D : Addr} (hg : Gl X n) (hm : X.mg n = some (.ref D)) (hdb : (n == ("__debug__" : Str)) = false := by decide) : PE X (.Name n pos) (tC (.ref D)) :=
  ⟨fun pins s σ H Q I h => ld_glob I hg hm ⟨.ref D, H, I, rfl, h⟩ hdb⟩
theorem cv_ref {D : Addr} : ∀ u, RelV (V.ref D) u → u = .ref D := fun _ h => h
theorem cv_ty {T : String} : ∀ u, RelV (V.ty T) u → u = .type T := fun _ h => h
end
/-! ### methods and operators that may raise -/
section
variable {P : Program} {w : World} {K : PySem.W.Frag} {mg : Str → Option Value} {base : Heap} {X : Cx} {C : Addr} {e e2 o : Expr} {es : List Expr} {pos apos : Pos} {t ta tb : TD} {tt : TAd} {S : XSpec} {j k : Nat} {ps : List Str} {op : Operator} {σ : L2.St} {H F : Hp} {Q : VK} {m qual : Str} {f : Addr} {fd : FuncData} {u : Xd → En → Prop} {W : WX} {st : Stmt}
structure CalRE (P : Program) (w : World) (K : PySem.W.Frag) (mg : Str → Option Value) (base : Heap) (k : Nat) (R : Addr → Prop) (ps : List Str) (S : XSpec) : Prop where
  ex : ∃ f fd, FnG P w K mg base (L2.CX P w) k f fd ps (liftX K S) ∧ R f ∧ Binds K fd ps []
theorem CalRE.mono {R : Addr → Prop} (h : CalRE P w K mg base j R ps S) (hk : j ≤ k) : CalRE P w K mg base k R ps S := by
  obtain ⟨f, fd, h1, h2⟩ := h.ex
  exact ⟨f, fd, h1.mono hk, h2⟩
theorem def_calRE {R : Addr → Prop} {N : List Str} {ir : (Xd → En → Prop) → TSt} (D : Dm K R m qual st ps) (Sc : FnScope N ps (defScope st)) (len : ∀ args Q E, S.sp args Q E → args.length = ps.length)
    (hb : ∀ [Pn] (f : Addr) (cdv : Value) (A : Around) (outer : List PySem.Env) (s : Shared) (H : Hp) (E : XK) (u : Xd → En → Prop), Room k (A.deeper (envOfC qual (defScope st) s.heap.objs.size f cdv)) → (A.deeper (envOfC qual (defScope st) s.heap.objs.size f cdv)).guards = some [] →
      Takes (cxOf (L2.CX P w) P w K mg base N qual (defScope st) f cdv A outer s H E) (WD K u) → LSs (cxOf (L2.CX P w) P w K mg base N qual (defScope st) f cdv A outer s H E) (defBody st) (ir u))
    (hsp : ∀ args Q E, S.sp args Q E → ir (endsX args E) (endsOf args Q) (rho0 N args)) : CalRE P w K mg base (k + 1) R ps S := by
  obtain ⟨f, fd, h1, h2, h3⟩ := D.ex
  exact ⟨f, fd, def_okE h1 Sc len (hb f) hsp, h2, h3⟩
/-- x.m(..), x a frozen instance of the class at C, m may raise -/
def fMthX (C : Addr) (m : Str) (S : XSpec) (u : Xd → En → Prop) (t : TD) (tt : TAd) : TF := fun ρ Q => t ρ fun x ρ1 => match x with
  | .dict ((.none, .int c) :: es) => c = (C : Int) ∧ fldP es m = none ∧ tt ρ1 fun as ρ2 => resFA ρ2 as fun xs => S.sp (.d (.dict ((.none, .int c) :: es)) :: xs.map .d) (fun l outs => outs = [] ∧ Q l ρ2) fun x outs => outs = [] ∧ u x ρ2
  | _ => False
def tMethE (C : Addr) (m : Str) (sp : Sp) (W : WX) (ta : TE) (t : TA) : TE := fun σ H Q => ta σ H fun x H1 => ∃ a dx fs, x = .ref a ∧ H1 a = some (.ins C dx fs) ∧ fs.lookup m = none ∧ t σ H1 fun vs H2 => sp (x :: vs) H2 Q (WE W σ)
theorem tMethX_of [Pn] {n : Nat} (h : liftF K (fMthX C m S u t tt) σ H Q) : tMethE C m (liftX K S) (WD K u) (liftD K t) (liftA K n tt) σ H Q := by
  obtain ⟨G, ρ, F, Q', R, q, c⟩ := h
  refine ⟨G, ρ, F, _, R, q, fun x ρ1 v H1 F1 h1 R1 s1 d => ?_⟩
  unfold fMthX at *
  split at h1
  · rename_i c0 es
    obtain ⟨ec, hn, h2⟩ := h1
    obtain ⟨a, B, dx, us, rfl, eB, ea, df⟩ := ins_inv d
    have : B = C := by omega
    subst this
    refine ⟨a, dx, us, rfl, R1.fh _ _ ea, fld_none df hn, G, ρ1, F1, _, R1, h2, fun as ρ2 vs H2 F2 h3 hl R2 s2 av => ?_⟩
    obtain ⟨xs, h4, dv⟩ := resFA_df R2 av h3
    refine ⟨.d (.dict ((.none, .int c0) :: es)) :: xs.map .d, F2, [], 0, fun l outs => outs = [] ∧ Q' l ρ2, fun x outs => outs = [] ∧ u x ρ2, R2.fh, .cons (d.mono s2) (args_d dv), IoOk.ds (_ :: xs), h4, fun r outs v F' H' q' P => ?_, fun x outs cls dd F' H' q' P xc => ?_⟩
    · obtain ⟨rfl, q2⟩ := q'
      obtain ⟨R3, r3⟩ := R2.call0 (xs := _ :: xs) P
      exact c _ _ _ _ _ q2 R3 ((s1.trans s2).trans P.ff) r3
    · obtain ⟨rfl, q2⟩ := q'
      obtain ⟨R3, _⟩ := R2.call0 (xs := _ :: xs) P
      exact ⟨G, ρ2, F', x, R3, xc, q2⟩
  · exact False.elim h1
theorem LF.mthE [Pn] {pl : Sem Bool} (hc : Cls X.K C) (c : CalRE X.prog X.w X.K X.mg X.base k (Meth X.K C m) ps S) (hr : Room k X.A) (hgd : X.A.guards = some []) (tk : Takes X (WD X.K u)) (ho : LD X o t) (ha : LA X (e :: es) tt)
    (ht : eval (.Call (.Attribute o m apos) (e :: es) [] pos) X.env = (do
      let ov ← eval o X.env
      standAt apos.atName
      let (f, first) ← holding [ov] (getMethod ov m pl)
      callWith pos f first (backTo pos (starEach (e :: es) X.env)) (backToKw pos (keywordEach [] X.env))) := by rfl)
    (he : starEach (e :: es) X.env = (false, eval e X.env) :: starEach es X.env := by rfl) (hpl : (backTo pos (starEach es X.env)).any (·.1) = false := by rfl) :
    LF X (.Call (.Attribute o m apos) (e :: es) [] pos) (fMthX C m S u t tt) := by
  obtain ⟨f, fd, Gd, hm, hb⟩ := c.ex
  refine ⟨peImp (t := tMethE C m (liftX X.K S) (WD X.K u) (liftD X.K t) (liftA X.K (e :: es).length tt)) ⟨fun pins st σ H Q I h => PySem.W.methodCall_KW (pl := pl) (thn (ho.p.run pins st σ H _ I h) fun u0 s1 ⟨x, H1, I1, rx, a, dx, fs, ex, ea, l, q⟩ => by
      subst ex
      obtain rfl : u0 = Value.ref a := rx
      refine getmeth_ok I1 ea hc hm l (PySem.W.callWith_K (h₀ := X.base) (first := [.ref a]) I.ok.mod.kin hm.kp (thn (ha.p.run pos pins s1 σ H1 _ I1 q) fun us s2 ⟨vs, H2, I2, r, q2⟩ => ⟨I2.kIn, ?_⟩) he hpl)
      exact runGS (us := .ref a :: us) (vs := .ref a :: vs) Gd hr hgd hb (passAt tk σ) I2 (.cons rfl r) q2) ht⟩ fun σ H Q h => tMethX_of h⟩
theorem LF.mthE0 [Pn] {pl : Sem Bool} (hc : Cls X.K C) (c : CalRE X.prog X.w X.K X.mg X.base k (Meth X.K C m) ps S) (hr : Room k X.A) (hgd : X.A.guards = some []) (tk : Takes X (WD X.K u)) (ho : LD X o t)
    (ht : eval (.Call (.Attribute o m apos) [] [] pos) X.env = (do
      let ov ← eval o X.env
      standAt apos.atName
      let (f, first) ← holding [ov] (getMethod ov m pl)
      callWith pos f first (backTo pos (starEach [] X.env)) (backToKw pos (keywordEach [] X.env))) := by rfl) :
    LF X (.Call (.Attribute o m apos) [] [] pos) (fMthX C m S u t aNil) := by
  obtain ⟨f, fd, Gd, hm, hb⟩ := c.ex
  refine ⟨peImp (t := tMethE C m (liftX X.K S) (WD X.K u) (liftD X.K t) (liftA X.K 0 aNil)) ⟨fun pins st σ H Q I h => PySem.W.methodCall_KW (pl := pl) (thn (ho.p.run pins st σ H _ I h) fun u0 s1 ⟨x, H1, I1, rx, a, dx, fs, ex, ea, l, q⟩ => by
      subst ex
      obtain rfl : u0 = Value.ref a := rx
      refine getmeth_ok I1 ea hc hm l ?_
      obtain ⟨G, ρ, F, Q', R, hq, k⟩ := q
      have q2 := k [] ρ [] H1 F hq rfl R (Same.refl _) .nil
      exact PySem.W.callWith_K0 (first := [.ref a]) I1.kIn hm.kp (runGS (us := [.ref a]) (vs := [.ref a]) Gd hr hgd hb (passAt tk σ) I1 (.cons rfl .nil) q2)) ht⟩ fun σ H Q h => tMethX_of h⟩
/-- x op y, which may raise -/
def fOpX (C : Addr) (S : XSpec) (u : Xd → En → Prop) (ta tb : TD) : TF := fun ρ Q => ta ρ fun x ρ1 => tb ρ1 fun y ρ2 => inst C x ∧ ((∃ i, y = .int i) ∨ inst C y) ∧ S.sp [.d x, .d y] (fun l outs => outs = [] ∧ Q l ρ2) fun x outs => outs = [] ∧ u x ρ2
def tOpE (C : Addr) (sp : Sp) (W : WX) (ta tb : TE) : TE := fun σ H Q => ta σ H fun x H1 => tb σ H1 fun y H2 => (∃ a dx fs, x = .ref a ∧ H2 a = some (.ins C dx fs)) ∧ ((∃ i, y = .int i) ∨ ∃ b dy gs, y = .ref b ∧ H2 b = some (.ins C dy gs)) ∧ sp [x, y] H2 Q (WE W σ)
theorem opX_of [Pn] (h : liftF K (fOpX C S u ta tb) σ H Q) : tOpE C (liftX K S) (WD K u) (liftD K ta) (liftD K tb) σ H Q := by
  obtain ⟨G, ρ, F, Q', R, q, c⟩ := h
  refine ⟨G, ρ, F, _, R, q, fun x ρ1 v H1 F1 h1 R1 s1 dx => ⟨G, ρ1, F1, _, R1, h1, fun y ρ2 w H2 F2 h2 R2 s2 dy => ?_⟩⟩
  obtain ⟨⟨es, rfl⟩, hy, h3⟩ := h2
  obtain ⟨a, B, dd, us, rfl, eB, ea, df⟩ := ins_inv dx
  have : B = C := by omega
  subst this
  refine ⟨⟨a, dd, us, rfl, R2.fh _ _ (s2 _ _ ea)⟩, ?_, ?_⟩
  · rcases hy with ⟨i, rfl⟩ | ⟨es2, rfl⟩
    · cases dy
      exact .inl ⟨_, rfl⟩
    · obtain ⟨b, B2, dd2, us2, rfl, eB2, eb, _⟩ := ins_inv dy
      have : B2 = B := by omega
      subst this
      exact .inr ⟨b, dd2, us2, rfl, R2.fh _ _ eb⟩
  · refine ⟨[.d (.dict ((.none, .int (B : Int)) :: es)), .d y], F2, [], 0, fun l outs => outs = [] ∧ Q' l ρ2, fun x outs => outs = [] ∧ u x ρ2, R2.fh, .cons (dx.mono s2) (.cons dy .nil), IoOk.ds [_, _], h3, fun r outs v F' H' q' P => ?_, fun x outs cls d F' H' q' P xc => ?_⟩
    · obtain ⟨rfl, q2⟩ := q'
      obtain ⟨R3, r3⟩ := R2.call0 (xs := [_, _]) P
      exact c _ _ _ _ _ q2 R3 ((s1.trans s2).trans P.ff) r3
    · obtain ⟨rfl, q2⟩ := q'
      obtain ⟨R3, _⟩ := R2.call0 (xs := [_, _]) P
      exact ⟨G, ρ2, F', x, R3, xc, q2⟩
theorem LF.opE [Pn] (c : CalRE X.prog X.w X.K X.mg X.base k (OpC X.K C op) ps S) (hr : Room k X.A) (hgd : X.A.guards = some []) (tk : Takes X (WD X.K u)) (ha : LD X e ta) (hb : LD X e2 tb) : LF X (.BinOp e op e2 pos) (fOpX C S u ta tb) := by
  obtain ⟨f, fd, Gd, oc, hbd⟩ := c.ex
  refine ⟨peImp (t := tOpE C (liftX X.K S) (WD X.K u) (liftD X.K ta) (liftD X.K tb)) ⟨fun pins s σ H Q I h => wpAny_BinOp (binT ha.p hb.p I h fun v u0 s2 x y H2 I2 rx ry hq => ?_)⟩ fun _ _ _ h => opX_of h⟩
  obtain ⟨⟨a, dx, fs, rfl, hia⟩, hy, hq⟩ := hq
  obtain rfl : v = Value.ref a := rx
  obtain ⟨mA, J, _⟩ := ins_get I2.hok hia
  obtain ⟨od, J, _⟩ := J.look
  obtain ⟨m, hF⟩ := I2.fr
  have run := wpAny_mono (runGS (us := [.ref a, u0]) (vs := [V.ref a, y]) Gd hr hgd hbd (passAt tk σ) I2 (.cons rfl (.cons ry .nil)) hq) (fun w s' hz => back_of hz) fun _ _ e => e
  rcases hy with ⟨i, rfl⟩ | ⟨b, dy, gs, rfl, hb2⟩
  · obtain ⟨t, rfl⟩ := ry
    obtain ⟨rc, r1, r2⟩ := oc.rt
    obtain ⟨fo, i1⟩ := oc.i1
    obtain ⟨ro, i2⟩ := oc.i2
    exact PySem.W.ksp_binT (T := "int") hF I2.ok.mod.kin J rfl oc.first oc.at_ oc.fn r1 r2 i1 i2 rfl run
  · cases ry
    obtain ⟨mB, J', _⟩ := ins_get I2.hok hb2
    obtain ⟨od', J', _⟩ := J'.look
    exact PySem.W.binop_K hF I2.ok.mod.kin J J'.type oc.first oc.at_ oc.fn run
/-- f(e, ..), f a frozen instance whose call may raise -/
def fInX (C : Addr) (S : XSpec) (u : Xd → En → Prop) (t : TD) (tt : TAd) : TF := fun ρ Q => t ρ fun x ρ1 => match x with
  | .dict ((.none, .int c) :: es) => c = (C : Int) ∧ tt ρ1 fun as ρ2 => resFA ρ2 as fun xs => S.sp (.d (.dict ((.none, .int c) :: es)) :: xs.map .d) (fun l outs => outs = [] ∧ Q l ρ2) fun x outs => outs = [] ∧ u x ρ2
  | _ => False
def tInE (X : Cx) (C : Addr) (sp : Sp) (W : WX) (tf : TE) (t : TA) : TE := fun σ H Q => tf σ H fun y H1 => ∃ a, y = V.ref a ∧ t σ H1 fun vs H2 => InsC X H2 a C ∧ sp (V.ref a :: vs) H2 Q (WE W σ)
theorem inX_of [Pn] {n : Nat} (h : liftF X.K (fInX C S u t tt) σ H Q) : tInE X C (liftX X.K S) (WD X.K u) (liftD X.K t) (liftA X.K n tt) σ H Q := by
  obtain ⟨G, ρ, F, Q', R, q, c⟩ := h
  refine ⟨G, ρ, F, _, R, q, fun x ρ1 v H1 F1 h1 R1 s1 d => ?_⟩
  unfold fInX at *
  split at h1
  · rename_i c0 es
    obtain ⟨ec, h2⟩ := h1
    obtain ⟨a, B, dx, us, rfl, eB, ea, df⟩ := ins_inv d
    have : B = C := by omega
    subst this
    refine ⟨a, rfl, G, ρ1, F1, _, R1, h2, fun as ρ2 vs H2 F2 h3 hl R2 s2 av => ⟨.inr ⟨dx, us, R2.fh _ _ (s2 _ _ ea)⟩, ?_⟩⟩
    obtain ⟨xs, h4, dv⟩ := resFA_df R2 av h3
    refine ⟨.d (.dict ((.none, .int c0) :: es)) :: xs.map .d, F2, [], 0, fun l outs => outs = [] ∧ Q' l ρ2, fun x outs => outs = [] ∧ u x ρ2, R2.fh, .cons (d.mono s2) (args_d dv), IoOk.ds (_ :: xs), h4, fun r outs v F' H' q' P => ?_, fun x outs cls dd F' H' q' P xc => ?_⟩
    · obtain ⟨rfl, q2⟩ := q'
      obtain ⟨R3, r3⟩ := R2.call0 (xs := _ :: xs) P
      exact c _ _ _ _ _ q2 R3 ((s1.trans s2).trans P.ff) r3
    · obtain ⟨rfl, q2⟩ := q'
      obtain ⟨R3, _⟩ := R2.call0 (xs := _ :: xs) P
      exact ⟨G, ρ2, F', x, R3, xc, q2⟩
  · exact False.elim h1
theorem runGSC {pins : List (Addr × Obj)} {s : Shared} {us : List Value} {vs : List V} {sp : Sp} {E : XK} (Gd : FnG X.prog X.w X.K X.mg X.base (L2.CX X.prog X.w) k f fd ps sp) (hr : Room k X.A) (hgd : X.A.guards = some []) (hb : Binds X.K fd ps [])
    (hx : PassesAt (L2.CX X.prog X.w) X σ E) (I : Inv X pins σ H s) (r : Vals vs us) (h : sp vs H Q E) : codeAny (model X.prog X.w) X.A (.call (.ref f) ⟨us, []⟩) (fun res s' => match res with
      | .ok (.ret v) => EP X pins σ Q v s'
      | .ok _ => False
      | .error e => X.xe e s') s := by
  have ll : us.length = ps.length := r.length.symm.trans (Gd.len _ _ _ _ h)
  have b := hb s us I.kIn (by rw [List.append_nil]; exact ll)
  rw [List.append_nil] at b
  refine codeAny_mono (Gd.run X.A X.stack s H ⟨us, []⟩ us vs Q E hr hgd I.env0 b r h) fun res s' hq => ?_
  rcases res with e' | fl
  · exact hx pins H s e' s' I hq
  · cases fl <;> first | exact I.after hq | exact False.elim hq
theorem LF.inE [Pn] {fe : Expr} (c : CalRE X.prog X.w X.K X.mg X.base k (CallO X.K C) ps S) (hr : Room k X.A) (hgd : X.A.guards = some []) (tk : Takes X (WD X.K u)) (hf : LD X fe t) (ha : LA X (e :: es) tt)
    (ht : eval (.Call fe (e :: es) [] pos) X.env = (do callWith pos (← eval fe X.env) [] (backTo pos (starEach (e :: es) X.env)) (backToKw pos (keywordEach [] X.env))) := by rfl)
    (he : starEach (e :: es) X.env = (false, eval e X.env) :: starEach es X.env := by rfl) (hpl : (backTo pos (starEach es X.env)).any (·.1) = false := by rfl) : LF X (.Call fe (e :: es) [] pos) (fInX C S u t tt) := by
  obtain ⟨g, fd, Gd, co, hb⟩ := c.ex
  exact ⟨peImp (t := tInE X C (liftX X.K S) (WD X.K u) (liftD X.K t) (liftA X.K (e :: es).length tt)) ⟨fun pins st σ H Q I h => Call_ (thn (hf.p.run pins st σ H _ I h) fun u0 s1 ⟨y, H1, I1, ry, a, ey, q⟩ => by
      subst ey
      obtain rfl : u0 = Value.ref a := ry
      refine callO_with (thn (ha.p.run pos pins s1 σ H1 _ I1 q) fun us s2 ⟨vs, H2, I2, r, hi, q2⟩ => ?_) he hpl
      obtain ⟨ox, od, J, hd⟩ := insC_at I2 hi
      exact ⟨⟨C, ox, od, J, hd⟩, wpAny_call (PySem.W.kco_code I2.kIn J hd co.at_ co.fn co.fi (runGSC (us := .ref a :: us) (vs := .ref a :: vs) Gd hr hgd hb (passAt tk σ) I2 (.cons rfl r) q2))⟩) ht⟩ fun σ H Q h => inX_of h⟩
end
end DL
/-! The data layer, part o-a: own instances with own lists as attributes. -/
namespace DL
open PySem L2 PyProof.Rows StX
section
variable {G : Gm} {X : Cx} {K : PySem.W.Frag} {F F' H H' : Hp} {ρ : En} {σ : L2.St} {e e2 o : Expr} {es : List Expr} {pos p2 : Pos} {oa ob : Op1} {ta tb : TD} {tf : TF} {v : V} {x : PD} {C : Addr} {nm : Str}
theorem nodup_inj {α β : Type} {f : α → β} : ∀ {l : List α}, (l.map f).Nodup → ∀ {x y : α}, x ∈ l → y ∈ l → f x = f y → x = y
  | [], _, x, y, h, _, _ => by cases h
  | a :: l, nd, x, y, hx, hy, e => by
    rw [List.map_cons, List.nodup_cons] at nd
    rcases List.mem_cons.mp hx with ex | hx'
    · rcases List.mem_cons.mp hy with ey | hy'
      · rw [ex, ey]
      · exact absurd (by rw [← ex, e]; exact List.mem_map_of_mem hy') nd.1
    · rcases List.mem_cons.mp hy with ey | hy'
      · exact absurd (by rw [← ey, ← e]; exact List.mem_map_of_mem hx') nd.1
      · exact nodup_inj nd.2 hx' hy' e
theorem putN_has {f : Str} {y : Addr × List PD} : ∀ {ns : List (Str × Addr × List PD)}, (f, y) ∈ putN f y ns
  | [] => List.mem_singleton.mpr rfl
  | (g, z) :: r => by
    unfold putN
    by_cases e : g = f
    · rw [if_pos e]; exact List.mem_cons_self
    · rw [if_neg e]; exact List.mem_cons_of_mem _ putN_has
/-- an own list in an own instance is written -/
theorem Rel.writeN [Pn] {i : Nat} {p : Option Nat} {fs : List (Str × PD)} {ns : List (Str × Addr × List PD)} {b : Addr} {xs ys : List PD} {vs' : List V} (R : Rel K G ρ F σ H) (e : ρ[i]? = some (some (.nb p C fs ns))) (h : getN nm ns = some (b, xs)) (d : DfA K F vs' ys) :
    Rel K G (ρ.set i (some (.nb p C fs (putN nm (b, ys) ns)))) F σ (upd H b (.lst vs')) := by
  have hm : (b, xs) ∈ (Lc.nb p C fs ns).fp := List.mem_map.mpr ⟨_, getN_mem h, rfl⟩
  obtain ⟨⟨nf, ow, vs, eb, dv⟩, w⟩ := R.ns i _ b xs e hm
  have same := putN_same (ys := ys) h
  obtain ⟨a, es, nfa, owa, oo, eo, ok⟩ := R.at_ e rfl
  have ok2 : HoOk K F (.nb p C fs (putN nm (b, ys) ns)) oo := by
    cases oo <;> first | exact False.elim ok | skip
    obtain ⟨h1, ⟨u1, h2, h3⟩, h4⟩ := ok
    refine ⟨h1, ⟨u1, ?_, h3⟩, ?_⟩
    · rw [h2]
      congr 1
      have : ∀ l : List (Str × Addr × List PD), l.map (fun n => (n.1, V.ref n.2.1)) = (l.map fun n => (n.1, n.2.1)).map fun q => (q.1, V.ref q.2) := fun l => by rw [List.map_map]; rfl
      rw [this ns, this (putN _ _ _), same]
    · have : ∀ l : List (Str × Addr × List PD), l.map (fun n => n.2.1) = (l.map fun n => (n.1, n.2.1)).map fun q => q.2 := fun l => by rw [List.map_map]; rfl
      rw [this, same, ← this]; exact h4
  have nd2 : ((putN nm (b, ys) ns).map fun n => n.2.1).Nodup := by
    cases oo <;> first | exact False.elim ok2 | exact ok2.2.2
  have cases_ : ∀ {c : Addr} {zs : List PD}, (c, zs) ∈ (Lc.nb p C fs (putN nm (b, ys) ns)).fp → (c = b ∧ zs = ys) ∨ (c ≠ b ∧ (c, zs) ∈ (Lc.nb p C fs ns).fp) := fun {c zs} hc => by
    obtain ⟨q, hq, eq⟩ := List.mem_map.mp hc
    by_cases hcb : c = b
    · left
      have : q = (nm, (b, ys)) := nodup_inj nd2 hq putN_has (by show q.2.1 = b; rw [eq]; exact hcb)
      rw [this] at eq
      exact ⟨hcb, (Prod.mk.inj eq).2.symm⟩
    · right
      refine ⟨hcb, ?_⟩
      rcases putN_mem hq with z | z
      · rw [z] at eq; exact absurd (Prod.mk.inj eq).1.symm hcb
      · exact List.mem_map.mpr ⟨q, z, eq⟩
  have old : ∀ {j : Nat} {m : Lc}, (ρ.set i (some (.nb p C fs (putN nm (b, ys) ns))))[j]? = some (some m) → (j = i ∧ m = .nb p C fs (putN nm (b, ys) ns)) ∨ (j ≠ i ∧ ρ[j]? = some (some m)) := fun {j m} q => by
    rcases set_get q with ⟨z, _, w⟩ | z
    · cases w; exact .inl ⟨z, rfl⟩
    · exact .inr z
  have own : ∀ {j : Nat} {m : Lc}, (ρ.set i (some (.nb p C fs (putN nm (b, ys) ns))))[j]? = some (some m) → m.own = true → ∃ m0, ρ[j]? = some (some m0) ∧ m0.own = true := fun {j m} q hm => by
    rcases old q with ⟨rfl, rfl⟩ | ⟨_, q⟩
    · exact ⟨_, e, rfl⟩
    · exact ⟨m, q, hm⟩
  refine ⟨fun c u q => ?_, R.ff, fun c u q hc => ?_, R.nw, fun c hc => ⟨?_, (R.ih c hc).2⟩, by rw [List.length_set]; exact R.len, fun j m q => ?_, fun j k m n u q1 q2 h1 h2 q3 q4 => ?_, R.ok, fun j m c zs q hc => ?_⟩
  · rw [upd_ne (ne_of_none q nf)]; exact R.fh _ _ q
  · have : c ≠ b := by
      rintro rfl
      rcases ow with ow | ⟨_, _, _, ow⟩
      · rw [q] at ow; cases ow
      · exact hc ow
    rw [upd_ne this]; exact R.fr c u q hc
  · by_cases hcb : c = b
    · subst hcb; rw [upd_same]; simp
    · rw [upd_ne hcb]; exact (R.ih c hc).1
  · rcases old q with ⟨rfl, rfl⟩ | ⟨hj, q⟩
    · have hab : a ≠ b := fun z => (w j _ e).1 rfl (by rw [es, z])
      exact ⟨a, es, nfa, owa, oo, by rw [upd_ne hab]; exact eo, ok2⟩
    · have z := R.sl j m q
      cases hm : m.own with
      | true =>
        rw [own_slot hm] at z ⊢
        obtain ⟨c, e1, h1, h2, u, h3, h4⟩ := z
        have hc : c ≠ b := fun z => (w j m q).1 hm (by rw [e1, z])
        exact ⟨c, e1, h1, h2, u, by rw [upd_ne hc]; exact h3, h4⟩
      | false =>
        rcases not_own hm with ⟨x, rfl⟩ | ⟨v, rfl⟩
        · exact z
        · exact z
  · obtain ⟨m0, p1, p2⟩ := own q1 h1
    obtain ⟨n0, p3, p4⟩ := own q2 h2
    exact R.ds j k m0 n0 u p1 p3 p2 p4 q3 q4
  · rcases old q with ⟨rfl, rfl⟩ | ⟨hj, q⟩
    · rcases cases_ hc with ⟨rfl, rfl⟩ | ⟨hcb, hc⟩
      · refine ⟨⟨nf, ow, vs', upd_same, d⟩, fun k n q2 => ?_⟩
        rcases old q2 with ⟨rfl, rfl⟩ | ⟨hk, q2⟩
        · exact ⟨fun _ => (w k _ e).1 rfl, fun _ _ => rfl⟩
        · exact w k n q2
      · obtain ⟨⟨z1, z2, us, z3, z4⟩, w2⟩ := R.ns j _ c zs e hc
        refine ⟨⟨z1, z2, us, by rw [upd_ne hcb]; exact z3, z4⟩, fun k n q2 => ?_⟩
        rcases old q2 with ⟨rfl, rfl⟩ | ⟨hk, q2⟩
        · exact ⟨fun _ => (w2 k _ e).1 rfl, fun _ _ => rfl⟩
        · exact w2 k n q2
    · obtain ⟨⟨z1, z2, us, z3, z4⟩, w2⟩ := R.ns j m c zs q hc
      have hcb : c ≠ b := fun z => hj ((w j m q).2 zs (by rw [← z]; exact hc))
      refine ⟨⟨z1, z2, us, by rw [upd_ne hcb]; exact z3, z4⟩, fun k n q2 => ?_⟩
      rcases old q2 with ⟨rfl, rfl⟩ | ⟨hk, q2⟩
      · refine ⟨fun _ => (w2 k _ e).1 rfl, fun ws hw => ?_⟩
        rcases cases_ hw with ⟨z, _⟩ | ⟨_, hw⟩
        · exact absurd z hcb
        · exact (w2 k _ e).2 ws hw
      · exact w2 k n q2
/-- an own list becomes one of an own instance -/
theorem Rel.putNs [Pn] {i : Nat} {l m : Lc} {a d : Addr} {oo : HO} {xs : List PD} (R : Rel K G ρ F σ H) (e : ρ[i]? = some (some l)) (ho : l.own = true) (es : σ[i]? = some (some (.ref a))) (ok : HoOk K F m oo) (ht : m.tag = l.tag) (r : RsOk K G F H ρ σ (.ls none xs) (.ref d))
    (hfp : ∀ c zs, (c, zs) ∈ m.fp → (c, zs) = (d, xs) ∨ (c, zs) ∈ l.fp) : Rel K G (ρ.set i (some m)) F σ (upd H a oo) := by
  obtain ⟨d', ed, _, ⟨dnf, dow, od, edo, dok⟩, fr⟩ := r
  cases ed
  have dow : G.H0 d = none := dow
  have hda : a ≠ d := fun z => fr.hf i l e ho (by rw [es, z])
  have dob : ∃ vs, H d = some (.lst vs) ∧ DfA K F vs xs := by
    cases od <;> first | exact False.elim dok | exact ⟨_, edo, dok⟩
  obtain ⟨a', es', nf, ow, ob, eo, _⟩ := R.at_ e ho
  rw [es] at es'
  have : a = a' := by simpa using es'
  subst this
  have ne : ∀ (j : Nat) (n : Lc), ρ[j]? = some (some n) → n.own = true → j ≠ i → σ[j]? ≠ some (some (.ref a)) := fun j n q hn hj z => hj (R.ds j i n l _ q e hn ho z es)
  have hma := ok.own
  have nna := R.noN_at e ho es
  have own : ∀ {j : Nat} {n : Lc}, (ρ.set i (some m))[j]? = some (some n) → n.own = true → ∃ n0, ρ[j]? = some (some n0) ∧ n0.own = true := fun {j n} q hn => by
    rcases set_get q with ⟨rfl, _, z⟩ | ⟨_, q⟩
    · exact ⟨l, e, ho⟩
    · exact ⟨n, q, hn⟩
  refine ⟨fun c u q => ?_, R.ff, fun c u q hc => ?_, R.nw, fun c hc => ⟨?_, (R.ih c hc).2⟩, by rw [List.length_set]; exact R.len, fun j n q => ?_, fun j k n r u q1 q2 h1 h2 q3 q4 => ?_, R.ok, fun j n c zs q hc => ?_⟩
  · rw [upd_ne (ne_of_none q nf)]; exact R.fh _ _ q
  · have : c ≠ a := by
      rintro rfl
      cases ht' : l.tag with
      | none => rw [ht'] at ow; have ow : G.H0 c = none := ow; rw [q] at ow; cases ow
      | some k => rw [ht'] at ow; exact hc (List.mem_of_getElem? ow)
    rw [upd_ne this]; exact R.fr c u q hc
  · by_cases hca : c = a
    · subst hca; rw [upd_same]; simp
    · rw [upd_ne hca]; exact (R.ih c hc).1
  · rcases set_get q with ⟨rfl, _, z⟩ | ⟨hj, q⟩
    · cases z
      rw [own_slot hma]
      exact ⟨a, es, nf, by rw [ht]; exact ow, oo, upd_same, ok⟩
    · have z := R.sl j n q
      cases hn : n.own with
      | true =>
        rw [own_slot hn] at z ⊢
        obtain ⟨c, e1, h1, h2, u, h3, h4⟩ := z
        have hc : c ≠ a := fun w => ne j n q hn hj (by rw [e1, w])
        exact ⟨c, e1, h1, h2, u, by rw [upd_ne hc]; exact h3, h4⟩
      | false =>
        rcases not_own hn with ⟨x, rfl⟩ | ⟨v, rfl⟩
        · exact z
        · exact z
  · obtain ⟨n0, p1, p2⟩ := own q1 h1
    obtain ⟨r0, p3, p4⟩ := own q2 h2
    exact R.ds j k n0 r0 u p1 p3 p2 p4 q3 q4
  · rcases set_get q with ⟨rfl, hl, z⟩ | ⟨hj, qo⟩
    · cases z
      rcases hfp c zs hc with z | z
      · cases z
        obtain ⟨vs, e1, d1⟩ := dob
        refine ⟨⟨dnf, .inl dow, vs, by rw [upd_ne (Ne.symm hda)]; exact e1, d1⟩, fun k n q2 => ?_⟩
        rcases set_get q2 with ⟨rfl, _, z⟩ | ⟨hk, q2⟩
        · cases z; exact ⟨fun _ => fr.hf k l e ho, fun _ _ => rfl⟩
        · exact ⟨fr.hf k n q2, fun ws hw => absurd hw (fr.hn k n ws q2)⟩
      · obtain ⟨⟨z1, z2, us, z3, z4⟩, w⟩ := R.ns j l c zs e z
        have hca : c ≠ a := fun q' => nna j l zs e (by rw [← q']; exact z)
        refine ⟨⟨z1, by rw [ht]; exact z2, us, by rw [upd_ne hca]; exact z3, z4⟩, fun k n q2 => ?_⟩
        rcases set_get q2 with ⟨rfl, _, z'⟩ | ⟨hk, q2⟩
        · cases z'; exact ⟨fun _ => (w k l e).1 ho, fun _ _ => rfl⟩
        · exact w k n q2
    · obtain ⟨⟨z1, z2, us, z3, z4⟩, w⟩ := R.ns j n c zs qo hc
      have hca : c ≠ a := fun q' => nna j n zs qo (by rw [← q']; exact hc)
      refine ⟨⟨z1, z2, us, by rw [upd_ne hca]; exact z3, z4⟩, fun k r q2 => ?_⟩
      rcases set_get q2 with ⟨rfl, _, z⟩ | ⟨hk, q2⟩
      · cases z
        refine ⟨fun _ => (w k l e).1 ho, fun ws hw => ?_⟩
        rcases hfp c ws hw with z | z
        · cases z; exact absurd hc (fr.hn j n zs qo)
        · exact (w k l e).2 ws z
      · exact w k r q2
/-! ### attributes that are looked up -/
def getF (f : Str) : List (Str × PD) → Option PD
  | [] => none
  | (g, y) :: r => if g = f then some y else getF f r
def noNs (f : Str) : List (Str × Addr × List PD) → Bool
  | [] => true
  | (g, _) :: r => !(decide (g = f)) && noNs f r
theorem kv_get : ∀ {us : List (Str × V)} {fs : List (Str × PD)} {r : List (Str × V)}, DKv K F us fs → ∀ {y : PD}, getF nm fs = some y → ∃ v, (us ++ r).lookup nm = some v ∧ Df K F v y
  | [], fs, r, h, y, e => by cases h; cases e
  | (k, u) :: us, fs, r, h, y, e => by
    cases h with
    | @cons _ q _ ds a b =>
      obtain ⟨k', d⟩ := q
      obtain ⟨a1, a2⟩ := a
      have a1 : k = k' := a1
      subst a1
      unfold getF at e
      by_cases hk : k = nm
      · rw [if_pos hk] at e; cases e; subst hk
        exact ⟨u, by simp [List.lookup], a2⟩
      · rw [if_neg hk] at e
        obtain ⟨v, h1, h2⟩ := kv_get (r := r) b e
        refine ⟨v, ?_, h2⟩
        have nb : (nm == k) = false := beq_eq_false_iff_ne.mpr (Ne.symm hk)
        simp only [List.cons_append, List.lookup, nb]
        exact h1
theorem kv_skip : ∀ {us : List (Str × V)} {fs : List (Str × PD)} {r : List (Str × V)}, DKv K F us fs → noF nm fs = true → (us ++ r).lookup nm = r.lookup nm
  | [], fs, r, h, e => by cases h; rfl
  | (k, u) :: us, fs, r, h, e => by
    cases h with
    | @cons _ q _ ds a b =>
      obtain ⟨k', d⟩ := q
      obtain ⟨a1, a2⟩ := a
      have a1 : k = k' := a1
      subst a1
      unfold noF at e
      rw [Bool.and_eq_true] at e
      have hk : k ≠ nm := by simpa using e.1
      have nb : (nm == k) = false := beq_eq_false_iff_ne.mpr (Ne.symm hk)
      simp only [List.cons_append, List.lookup, nb]
      exact kv_skip b e.2
theorem ns_look {b : Addr} {xs : List PD} : ∀ {ns : List (Str × Addr × List PD)}, getN nm ns = some (b, xs) → (ns.map fun n => (n.1, V.ref n.2.1)).lookup nm = some (.ref b)
  | (g, z) :: r, h => by
    unfold getN at h
    by_cases e : g = nm
    · rw [if_pos e] at h; cases h; subst e; simp [List.lookup]
    · rw [if_neg e] at h
      have nb : (nm == g) = false := beq_eq_false_iff_ne.mpr (Ne.symm e)
      simp only [List.map_cons, List.lookup, nb]
      exact ns_look h
theorem ns_none : ∀ {ns : List (Str × Addr × List PD)}, noNs nm ns = true → (ns.map fun n => (n.1, V.ref n.2.1)).lookup nm = none
  | [], _ => rfl
  | (g, z) :: r, h => by
    unfold noNs at h
    rw [Bool.and_eq_true] at h
    have hk : g ≠ nm := by simpa using h.1
    have nb : (nm == g) = false := beq_eq_false_iff_ne.mpr (Ne.symm hk)
    simp only [List.map_cons, List.lookup, nb]
    exact ns_none h.2
/-- an own instance in a slot -/
theorem Rel.nb_at [Pn] {s : Nat} {p : Option Nat} {fs : List (Str × PD)} {ns : List (Str × Addr × List PD)} (R : Rel K G ρ F σ H) (er : ρ[s]? = some (some (.nb p C fs ns))) : ∃ a dx u1, σ[s]? = some (some (.ref a)) ∧ H a = some (.ins C dx (u1 ++ ns.map fun n => (n.1, V.ref n.2.1))) ∧ DKv K F u1 fs ∧ (ns.map fun n => n.2.1).Nodup := by
  obtain ⟨a, es, nf, ow, o, eo, ok⟩ := R.at_ er rfl
  cases o <;> first | exact False.elim ok | skip
  obtain ⟨rfl, ⟨u1, rfl, h3⟩, h4⟩ := ok
  exact ⟨a, _, u1, es, eo, h3, h4⟩
/-- s.f, data, s an own instance -/
def dFldS (C : Addr) (s : Nat) (f : Str) : TD := fun ρ Q => match ρ[s]? with
  | some (some (.nb _ B fs _)) => B = C ∧ ∃ y, getF f fs = some y ∧ Q y ρ
  | some (some (.ob _ B fs)) => B = C ∧ ∃ y, getF f fs = some y ∧ Q y ρ
  | _ => False
theorem LD.fldS [Pn] {s : Nat} (hc : Cls X.K C) (hn : NoAttr X.K C nm) (h : PE X e (tVar s)) (hb : attributeBase e nm X.env (eval e X.env) = eval e X.env := by rfl) : LD X (.Attribute e nm pos) (dFldS C s nm) :=
  ⟨peImp (pe_fld h hb) fun σ H Q ⟨G, ρ, F, Q', R, q, c⟩ => by
    unfold dFldS at q
    split at q
    · rename_i p B fs ns er
      obtain ⟨rfl, y, hy, q⟩ := q
      obtain ⟨a, dx, u1, es, ea, d, _⟩ := R.nb_at er
      obtain ⟨v, e1, dv⟩ := kv_get d hy
      exact ⟨_, es, a, _, dx, _, v, rfl, ea, hc, hn, e1, c _ _ _ _ _ q R (Same.refl _) dv⟩
    · rename_i p B fs er
      obtain ⟨rfl, y, hy, q⟩ := q
      obtain ⟨a, es, nf, ow, o, eo, ok⟩ := R.at_ er rfl
      cases o <;> first | exact False.elim ok | skip
      rename_i B' dx us
      obtain ⟨rfl, ok⟩ := ok
      obtain ⟨v, e1, dv⟩ := kv_get (r := []) ok hy
      rw [List.append_nil] at e1
      exact ⟨_, es, a, _, dx, _, v, rfl, eo, hc, hn, e1, c _ _ _ _ _ q R (Same.refl _) dv⟩
    · exact False.elim q⟩
theorem tFld_n [Pn] {s : Nat} {p : Option Nat} {fs : List (Str × PD)} {ns : List (Str × Addr × List PD)} {b : Addr} {xs : List PD} {Q : VK} (hc : Cls K C) (hn : NoAttr K C nm) (R : Rel K G ρ F σ H) (er : ρ[s]? = some (some (.nb p C fs ns))) (hf : noF nm fs = true) (hg : getN nm ns = some (b, xs)) (q : Q (.ref b) H) : tFld K (tVar s) nm σ H Q := by
  obtain ⟨a, dx, u1, es, ea, d, _⟩ := R.nb_at er
  exact ⟨_, es, a, _, dx, _, _, rfl, ea, hc, hn, by rw [kv_skip d hf]; exact ns_look hg, q⟩
/-- s.f, an own list, as an operand -/
theorem LO.f [Pn] {s : Nat} (hc : Cls X.K C) (hn : NoAttr X.K C nm) (h : PE X e (tVar s)) (hb : attributeBase e nm X.env (eval e X.env) = eval e X.env := by rfl) : LO X (.Attribute e nm pos) (.f C s nm) :=
  ⟨peImp (pe_fld h hb) fun σ H Q ⟨G, ρ, F, Q', R, q, c⟩ => by
    dsimp only [Op1.run] at q
    split at q
    · rename_i p B fs ns er
      obtain ⟨rfl, hf, q⟩ := q
      split at q
      · rename_i b xs hg
        exact tFld_n hc hn R er hf hg (c _ _ _ _ _ q R (Same.refl _) rfl)
      · exact False.elim q
    · exact False.elim q⟩
/-- s.f.append(e) -/
def sAppN (C : Addr) (s : Nat) (f : Str) (t : TD) : TSt := fun D ρ => match ρ[s]? with
  | some (some (.nb _ B fs ns)) => B = C ∧ noF f fs = true ∧ (match getN f ns with
    | some (b, _) => t ρ fun x ρ1 => (match ρ1[s]? with
      | some (some (.nb p B1 fs1 ns1)) => (match getN f ns1 with
        | some (b1, xs) => b1 = b ∧ xs.length < sizeLine ∧ D.nx (ρ1.set s (some (.nb p B1 fs1 (putN f (b1, xs ++ [x]) ns1))))
        | none => False)
      | _ => False)
    | none => False)
  | _ => False
theorem LS.appN [Pn] {s : Nat} (hc : Cls X.K C) (hn : NoAttr X.K C nm) (h : PE X e (tBM X.K "list" rAppend (tFld X.K (tVar s) nm) (tCons (liftD X.K ta) tNil))) (hs : swapsWith e none pos.line X.env = pure false := by rfl) : LS X (.Expr e pos) (sAppN C s nm ta) := ⟨psImp (ps_expr h hs) fun D σ H ⟨G, ρ, F, D', R, q, k⟩ => by
  unfold sAppN at q
  split at q
  · rename_i p B fs ns er
    obtain ⟨rfl, hf, q⟩ := q
    split at q
    · rename_i b zs hg
      obtain ⟨us, eb, _⟩ := R.nst er hg
      apply tFld_n hc hn R er hf hg
      refine ⟨.inl ⟨rfl, us, SqL.of eb⟩, G, ρ, F, _, R, q, fun x ρ1 v H1 F1 h1 R1 s1 d => ?_⟩
      split at h1
      · rename_i p1 B1 fs1 ns1 er1
        split at h1
        · rename_i b1 xs hg1
          obtain ⟨rfl, hl, h2⟩ := h1
          obtain ⟨vs, eb1, dv⟩ := R1.nst er1 hg1
          exact ⟨_, vs, v, rfl, rfl, eb1, by rw [dv.length]; exact hl, k.nx _ _ _ _ h2 (R1.writeN er1 hg1 (dv.snoc d)) s1⟩
        · exact False.elim h1
      · exact False.elim h1
    · exact False.elim q
  · exact False.elim q⟩
/-- s.f.pop() -/
def dPopN (C : Addr) (s : Nat) (f : Str) : TD := fun ρ Q => match ρ[s]? with
  | some (some (.nb p B fs ns)) => B = C ∧ noF f fs = true ∧ (match getN f ns with
    | some (b, xs) => ∃ y, xs[xs.length - 1]? = some y ∧ Q y (ρ.set s (some (.nb p B fs (putN f (b, xs.dropLast) ns))))
    | none => False)
  | _ => False
theorem LD.popN [Pn] {s : Nat} (hc : Cls X.K C) (hn : NoAttr X.K C nm) (h : PE X e (tBM0 X.K "list" rPop (tFld X.K (tVar s) nm))) : LD X e (dPopN C s nm) := ⟨peImp h fun σ H Q ⟨G, ρ, F, Q', R, q, c⟩ => by
  unfold dPopN at q
  split at q
  · rename_i p B fs ns er
    obtain ⟨rfl, hf, q⟩ := q
    split at q
    · rename_i b xs hg
      obtain ⟨vs, eb, dv⟩ := R.nst er hg
      obtain ⟨y, hy, q⟩ := q
      obtain ⟨w, hw, dw⟩ := dv.get hy
      exact tFld_n hc hn R er hf hg ⟨.inl ⟨rfl, vs, SqL.of eb⟩, b, vs, w, rfl, rfl, eb, by rw [dv.length]; exact hw, c _ _ _ _ _ q (R.writeN er hg dv.dropLast) (Same.refl _) dw⟩
    · exact False.elim q
  · exact False.elim q⟩
/-- s.f = a new list of its own -/
def sSetN (C : Addr) (s : Nat) (f : Str) (t : TF) : TSt := fun D ρ => t ρ fun l ρ1 => match l, ρ1[s]? with
  | .ls none xs, some (some (.nb p B fs ns)) => B = C ∧ noF f fs = true ∧ fs.length + ns.length < 1000 ∧ ∀ d, D.nx (ρ1.set s (some (.nb p C fs (putN f (d, xs) ns))))
  | .ls none xs, some (some (.ob p B fs)) => B = C ∧ noF f fs = true ∧ fs.length < 1000 ∧ ∀ d, D.nx (ρ1.set s (some (.nb p C fs [(f, d, xs)])))
  | _, _ => False
theorem putF_skip : ∀ {us : List (Str × V)} {fs : List (Str × PD)} {r : List (Str × V)} {v : V}, DKv K F us fs → noF nm fs = true → L2.putF nm v (us ++ r) = us ++ L2.putF nm v r
  | [], fs, r, v, h, e => by cases h; rfl
  | (k, u) :: us, fs, r, v, h, e => by
    cases h with
    | @cons _ q _ ds a b =>
      obtain ⟨k', d⟩ := q
      obtain ⟨a1, a2⟩ := a
      have a1 : k = k' := a1
      subst a1
      unfold noF at e
      rw [Bool.and_eq_true] at e
      have hk : k ≠ nm := by simpa using e.1
      have e1 : L2.putF nm v ((k, u) :: (us ++ r)) = (k, u) :: L2.putF nm v (us ++ r) := if_neg hk
      show L2.putF nm v ((k, u) :: (us ++ r)) = (k, u) :: (us ++ L2.putF nm v r)
      rw [e1, putF_skip b e.2]
theorem putF_ns {d : Addr} {xs : List PD} : ∀ {ns : List (Str × Addr × List PD)}, L2.putF nm (.ref d) (ns.map fun n => (n.1, V.ref n.2.1)) = (putN nm (d, xs) ns).map fun n => (n.1, V.ref n.2.1)
  | [] => rfl
  | (g, z) :: r => by
    show L2.putF nm (.ref d) ((g, V.ref z.1) :: r.map fun n => (n.1, V.ref n.2.1)) = _
    unfold L2.putF putN
    by_cases e : g = nm
    · rw [if_pos e, if_pos e, e]; rfl
    · rw [if_neg e, if_neg e, putF_ns (xs := xs)]; rfl
theorem putN_nodup {d : Addr} {xs : List PD} : ∀ {ns : List (Str × Addr × List PD)}, (ns.map fun n => n.2.1).Nodup → (∀ q ∈ ns, q.2.1 ≠ d) → ((putN nm (d, xs) ns).map fun n => n.2.1).Nodup
  | [], _, _ => by
    show ([d] : List Addr).Nodup
    simp
  | (g, z) :: r, nd, h => by
    rw [List.map_cons, List.nodup_cons] at nd
    unfold putN
    by_cases e : g = nm
    · rw [if_pos e, List.map_cons, List.nodup_cons]
      exact ⟨fun w => by
        obtain ⟨q, hq, eq⟩ := List.mem_map.mp w
        exact h q (List.mem_cons_of_mem _ hq) eq, nd.2⟩
    · rw [if_neg e, List.map_cons, List.nodup_cons]
      refine ⟨fun w => ?_, putN_nodup nd.2 fun q hq => h q (List.mem_cons_of_mem _ hq)⟩
      obtain ⟨q, hq, eq⟩ := List.mem_map.mp w
      rcases putN_mem hq with rfl | hq
      · exact h _ List.mem_cons_self eq.symm
      · exact nd.1 (List.mem_map.mpr ⟨q, hq, eq⟩)
theorem LS.setN [Pn] {s : Nat} (hc : Cls X.K C) (hn : NoAttr X.K C nm) (h : LF X e tf) (ho : PE X o (tVar s)) (hs : swapsWith e (some (.Attribute o nm p2)) pos.line X.env = pure false := by rfl) : LS X (.Assign [.Attribute o nm p2] e pos) (sSetN C s nm tf) :=
  ⟨psImp (ps_fld ho h.p hs) fun D σ H ⟨G, ρ, F, D', R, q, k⟩ => ⟨G, ρ, F, _, R, q, fun l ρ1 v H1 F1 h1 R1 s1 r => by
    split at h1
    · rename_i xs p B fs ns er
      obtain ⟨rfl, hf, hl, h2⟩ := h1
      obtain ⟨d, ed, _, dat, fr⟩ := r
      subst ed
      have r : RsOk X.K G F1 H1 ρ1 σ (.ls none xs) (.ref d) := ⟨d, rfl, rfl, dat, fr⟩
      obtain ⟨a, dx, u1, es, ea, dv, nd⟩ := R1.nb_at er
      have ln : (u1 ++ ns.map fun n => (n.1, V.ref n.2.1)).length < 1000 := by rw [List.length_append, List.length_map, Paired.length dv]; exact hl
      refine ⟨_, es, a, _, dx, _, rfl, ea, hc, hn, ln, k.nx _ _ _ _ (h2 d) ?_ s1⟩
      refine R1.putNs er rfl es (m := .nb p _ fs (putN nm (d, xs) ns)) ⟨rfl, ⟨u1, ?_, dv⟩, ?_⟩ rfl r fun c zs hz => ?_
      · rw [putF_skip dv hf, putF_ns (xs := xs)]
      · refine putN_nodup nd fun q hq e => ?_
        exact fr.hn s _ q.2.2 er (List.mem_map.mpr ⟨q, hq, by rw [← e]⟩)
      · obtain ⟨q, hq, eq⟩ := List.mem_map.mp hz
        rcases putN_mem hq with z | z
        · left; rw [← eq, z]
        · exact .inr (List.mem_map.mpr ⟨q, z, eq⟩)
    · rename_i xs p B fs er
      obtain ⟨rfl, hf, hl, h2⟩ := h1
      obtain ⟨d, ed, _, dat, fr⟩ := r
      subst ed
      have r : RsOk X.K G F1 H1 ρ1 σ (.ls none xs) (.ref d) := ⟨d, rfl, rfl, dat, fr⟩
      obtain ⟨a, es, nf, ow, oo, eo, ok⟩ := R1.at_ er rfl
      cases oo <;> first | exact False.elim ok | skip
      rename_i B' dx us
      obtain ⟨rfl, dv⟩ := ok
      refine ⟨_, es, a, _, dx, us, rfl, eo, hc, hn, by rw [Paired.length dv]; exact hl, k.nx _ _ _ _ (h2 d) ?_ s1⟩
      refine R1.putNs er rfl es (m := .nb p _ fs [(nm, d, xs)]) ⟨rfl, ⟨us, ?_, dv⟩, by simp⟩ rfl r fun c zs hz => ?_
      · have := putF_skip (r := []) (v := .ref d) dv hf
        rw [List.append_nil] at this
        rw [this]; rfl
      · left
        have hz : (c, zs) ∈ [(d, xs)] := hz
        exact List.mem_singleton.mp hz
    · exact False.elim h1⟩⟩
/-- over s.f, which stays -/
def iFld (C : Addr) (s : Nat) (f : Str) : TId := fun ρ Q => match ρ[s]? with
  | some (some (.nb _ B fs ns)) => B = C ∧ noF f fs = true ∧ (match getN f ns with
    | some (b, xs) => Q (.nst s f b xs) ρ
    | none => False)
  | _ => False
theorem LI.fld [Pn] {s : Nat} {tg : Expr} (hc : Cls X.K C) (hn : NoAttr X.K C nm) (h : PE X e (tVar s)) (hb : attributeBase e nm X.env (eval e X.env) = eval e X.env := by rfl) : LI X tg (.Attribute e nm pos) (iFld C s nm) :=
  ⟨piImp (pi_seq (pe_fld h hb)) fun σ H R ⟨G, ρ, F, Q', Rl, q, c⟩ => by
    unfold iFld at q
    split at q
    · rename_i p B fs ns er
      obtain ⟨rfl, hf, q⟩ := q
      split at q
      · rename_i b xs hg
        obtain ⟨vs, eb, dv⟩ := Rl.nst er hg
        refine tFld_n hc hn Rl er hf hg (.inl ⟨b, vs, rfl, SqL.of eb, c _ _ _ _ _ q Rl (Same.refl _) ?_⟩)
        intro G2 i ρ2 F2 σ2 H2 R2 s2 kp _
        obtain ⟨p2, C2, fs2, ns2, er2, hg2⟩ := kp
        obtain ⟨vs2, eb2, dv2⟩ := R2.nst er2 hg2
        have hl : vs2.length = xs.length := dv2.length
        have sq : SqL X.K H2 b vs2 := SqL.of eb2
        refine ⟨fun h => ⟨vs2, sq, by rw [hl]; exact h⟩, fun h => ?_⟩
        have h : i < xs.length := h
        obtain ⟨d, hd⟩ : ∃ d, xs[i]? = some d := ⟨xs[i]'h, List.getElem?_eq_getElem h⟩
        obtain ⟨v, hv, dv⟩ := dv2.get hd
        refine ⟨⟨vs2, v, sq, hv⟩, fun x H' y => ?_⟩
        obtain ⟨rfl, y⟩ := y
        have := y vs2 sq
        rw [hv] at this
        have := Option.some.inj this
        subst this
        exact ⟨F2, d, Grow.refl R2.fh, hd, dv⟩
      · exact False.elim q
    · exact False.elim q⟩
end
end DL
/-! The data layer, part o-b: methods of own instances, o[i], o[i] = e, len(o). -/
namespace DL
open PySem L2 PyProof.Rows StX
section
variable {G : Gm} {X : Cx} {K : PySem.W.Frag} {F F' H H' : Hp} {ρ : En} {σ : L2.St} {o e e2 i : Expr} {es : List Expr} {pos p2 apos : Pos} {ta ti tv : TD} {tt : TAd} {tf : TF} {v : V} {x : PD} {C : Addr} {m : Str} {k s : Nat} {ps : List Str} {u : Xd → En → Prop}
/-- what a call of a def comes to, its arguments at hand -/
def goC (S : FSpec) (as : List AV) (ρ : En) (Q : Lc → En → Prop) : Prop := match argsAt ρ as 0 with
  | some (args, is) => nodupB is = true ∧ S.sp args fun r outs => putF ρ ρ is outs fun ρ2 => Q r ρ2
  | none => False
def goX (S : XSpec) (u : Xd → En → Prop) (as : List AV) (ρ : En) (Q : Lc → En → Prop) : Prop := match argsAt ρ as 0 with
  | some (args, is) => nodupB is = true ∧ S.sp args (fun r outs => putF ρ ρ is outs fun ρ2 => Q r ρ2) fun x outs => putF ρ ρ is outs fun ρ2 => u x ρ2
  | none => False
theorem goC_of [Pn] {S : FSpec} {as : List AV} {vs : List V} {Q : VK} {Q' : Lc → En → Prop} {E : XK} (R : Rel K G ρ F σ H) (av : AvA K F σ as vs) (h : goC S as ρ Q') (c : ∀ l ρ' v H' F', Q' l ρ' → Rel K G ρ' F' σ H' → Same F F' → RsOk K G F' H' ρ' σ l v → Q v H') : liftC K S vs H Q E := by
  unfold goC at h
  split at h
  · rename_i args is ea
    obtain ⟨hn, h⟩ := h
    obtain ⟨ios, p3, io, back⟩ := callIo R av ea (nodup_of hn)
    refine ⟨args, F, ios, is.length, _, R.fh, p3, io, h, fun r outs v F' H' q' P => ?_⟩
    obtain ⟨R2, r2⟩ := back P
    have q2 := q'
    change putF _ _ _ _ _ at q2
    rw [putF_eq] at q2
    exact c _ _ _ _ _ q2 R2 P.ff r2
  · exact False.elim h
theorem goX_of [Pn] {S : XSpec} {as : List AV} {vs : List V} {Q : VK} {Q' : Lc → En → Prop} (R : Rel K G ρ F σ H) (av : AvA K F σ as vs) (h : goX S u as ρ Q') (c : ∀ l ρ' v H' F', Q' l ρ' → Rel K G ρ' F' σ H' → Same F F' → RsOk K G F' H' ρ' σ l v → Q v H') : liftX K S vs H Q (WE (WD K u) σ) := by
  unfold goX at h
  split at h
  · rename_i args is ea
    obtain ⟨hn, h⟩ := h
    obtain ⟨ios, p3, io, back⟩ := callIo R av ea (nodup_of hn)
    refine ⟨args, F, ios, is.length, _, _, R.fh, p3, io, h, fun r outs v F' H' q' P => ?_, fun x outs cls d F' H' q' P xc => ?_⟩
    · obtain ⟨R2, r2⟩ := back P
      have q2 := q'
      change putF _ _ _ _ _ at q2
      rw [putF_eq] at q2
      exact c _ _ _ _ _ q2 R2 P.ff r2
    · obtain ⟨R2, _⟩ := back P
      have q2 := q'
      change putF _ _ _ _ _ at q2
      rw [putF_eq] at q2
      exact ⟨G, _, F', x, R2, xc, q2⟩
  · exact False.elim h
/-- an own instance of the class at C stands in slot s, without an attribute m -/
def isO (C : Addr) (m : Str) (ρ : En) (s : Nat) (k : Prop) : Prop := match ρ[s]? with
  | some (some (.nb _ B fs ns)) => B = C ∧ noF m fs = true ∧ noNs m ns = true ∧ k
  | _ => False
theorem isO_of [Pn] {kk : Prop} (R : Rel K G ρ F σ H) (h : isO C m ρ s kk) : kk ∧ ∃ a dx us, σ[s]? = some (some (.ref a)) ∧ H a = some (.ins C dx us) ∧ us.lookup m = none := by
  unfold isO at h
  split at h
  · rename_i p B fs ns er
    obtain ⟨rfl, h1, h2, h3⟩ := h
    obtain ⟨a, dx, u1, es, ea, d, _⟩ := R.nb_at er
    exact ⟨h3, a, dx, _, es, ea, by rw [kv_skip d h1]; exact ns_none h2⟩
  · exact False.elim h
/-- s.m(..), s an own instance; m may change it -/
def fMthS (C : Addr) (m : Str) (S : FSpec) (s : Nat) (tt : TAd) : TF := fun ρ Q => isO C m ρ s (tt ρ fun as ρ1 => goC S (.s s :: as) ρ1 Q)
def fMthSX (C : Addr) (m : Str) (S : XSpec) (u : Xd → En → Prop) (s : Nat) (tt : TAd) : TF := fun ρ Q => isO C m ρ s (tt ρ fun as ρ1 => goX S u (.s s :: as) ρ1 Q)
theorem tMethS_of [Pn] {S : FSpec} {n : Nat} {Q : VK} (h : liftF K (fMthS C m S s tt) σ H Q) : tMeth C m (liftC K S) [] E0 (tVar s) (liftA K n tt) σ H Q := by
  obtain ⟨G, ρ, F, Q', R, q, c⟩ := h
  obtain ⟨q, a, dx, us, es, ea, hl⟩ := isO_of R q
  refine ⟨_, es, a, dx, us, rfl, ea, hl, G, ρ, F, _, R, q, fun as ρ1 vs H1 F1 h1 _ R1 s1 av => ?_⟩
  show liftC K S (V.ref a :: (vs ++ [])) H1 Q E0
  rw [List.append_nil]
  exact goC_of R1 (.cons (a := .s s) es av) h1 fun l ρ' v H' F' hq R' s' r => c _ _ _ _ _ hq R' (s1.trans s') r
theorem tMethSX_of [Pn] {S : XSpec} {n : Nat} {Q : VK} (h : liftF K (fMthSX C m S u s tt) σ H Q) : tMethE C m (liftX K S) (WD K u) (tVar s) (liftA K n tt) σ H Q := by
  obtain ⟨G, ρ, F, Q', R, q, c⟩ := h
  obtain ⟨q, a, dx, us, es, ea, hl⟩ := isO_of R q
  refine ⟨_, es, a, dx, us, rfl, ea, hl, G, ρ, F, _, R, q, fun as ρ1 vs H1 F1 h1 _ R1 s1 av => ?_⟩
  exact goX_of R1 (.cons (a := .s s) es av) h1 fun l ρ' v H' F' hq R' s' r => c _ _ _ _ _ hq R' (s1.trans s') r
theorem LF.mthS0 [Pn] {S : FSpec} {pl : Sem Bool} (hc : Cls X.K C) (c : CalR X.prog X.w X.K X.mg X.base k (Meth X.K C m) ps S) (hr : Room k X.A) (hgd : X.A.guards = some []) (ho : PE X o (tVar s))
    (ht : eval (.Call (.Attribute o m apos) [] [] pos) X.env = (do
      let ov ← eval o X.env
      standAt apos.atName
      let (f, first) ← holding [ov] (getMethod ov m pl)
      callWith pos f first (backTo pos (starEach [] X.env)) (backToKw pos (keywordEach [] X.env))) := by rfl) :
    LF X (.Call (.Attribute o m apos) [] [] pos) (fMthS C m S s aNil) := by
  obtain ⟨f, fd, Gd, hm, hb⟩ := c.ex
  refine ⟨peImp (t := tMeth C m (liftC X.K S) [] E0 (tVar s) (liftA X.K 0 aNil)) ⟨fun pins st σ H Q I h => PySem.W.methodCall_KW (pl := pl) (thn (ho.run pins st σ H _ I h) fun u0 s1 ⟨x, H1, I1, rx, a, dx, fs, ex, ea, l, q⟩ => by
      subst ex
      obtain rfl : u0 = Value.ref a := rx
      refine getmeth_ok I1 ea hc hm l ?_
      obtain ⟨G, ρ, F, Q', R, hq, k⟩ := q
      have q2 := k [] ρ [] H1 F hq rfl R (Same.refl _) .nil
      exact PySem.W.callWith_K0 (first := [.ref a]) I1.kIn hm.kp (runG (us := [.ref a]) (vs := [.ref a]) Gd hr hgd hb .nil pass0 I1 (.cons rfl .nil) q2)) ht⟩ fun σ H Q h => tMethS_of h⟩
theorem LF.mthS [Pn] {S : FSpec} {pl : Sem Bool} (hc : Cls X.K C) (c : CalR X.prog X.w X.K X.mg X.base k (Meth X.K C m) ps S) (hr : Room k X.A) (hgd : X.A.guards = some []) (ho : PE X o (tVar s)) (ha : LA X (e :: es) tt)
    (ht : eval (.Call (.Attribute o m apos) (e :: es) [] pos) X.env = (do
      let ov ← eval o X.env
      standAt apos.atName
      let (f, first) ← holding [ov] (getMethod ov m pl)
      callWith pos f first (backTo pos (starEach (e :: es) X.env)) (backToKw pos (keywordEach [] X.env))) := by rfl)
    (he : starEach (e :: es) X.env = (false, eval e X.env) :: starEach es X.env := by rfl) (hpl : (backTo pos (starEach es X.env)).any (·.1) = false := by rfl) :
    LF X (.Call (.Attribute o m apos) (e :: es) [] pos) (fMthS C m S s tt) := by
  obtain ⟨f, fd, Gd, hm, hb⟩ := c.ex
  refine ⟨peImp (t := tMeth C m (liftC X.K S) [] E0 (tVar s) (liftA X.K (e :: es).length tt)) ⟨fun pins st σ H Q I h => PySem.W.methodCall_KW (pl := pl) (thn (ho.run pins st σ H _ I h) fun u0 s1 ⟨x, H1, I1, rx, a, dx, fs, ex, ea, l, q⟩ => by
      subst ex
      obtain rfl : u0 = Value.ref a := rx
      refine getmeth_ok I1 ea hc hm l (PySem.W.callWith_K (h₀ := X.base) (first := [.ref a]) I.ok.mod.kin hm.kp (thn (ha.p.run pos pins s1 σ H1 _ I1 q) fun us s2 ⟨vs, H2, I2, r, q2⟩ => ⟨I2.kIn, ?_⟩) he hpl)
      have q3 : liftC X.K S (V.ref a :: (vs ++ [])) H2 Q E0 := q2
      exact runG (us := .ref a :: us) (vs := .ref a :: vs) Gd hr hgd hb .nil pass0 I2 (.cons rfl r) q3) ht⟩ fun σ H Q h => tMethS_of h⟩
theorem LF.mthSE0 [Pn] {S : XSpec} {pl : Sem Bool} (hc : Cls X.K C) (c : CalRE X.prog X.w X.K X.mg X.base k (Meth X.K C m) ps S) (hr : Room k X.A) (hgd : X.A.guards = some []) (tk : Takes X (WD X.K u)) (ho : PE X o (tVar s))
    (ht : eval (.Call (.Attribute o m apos) [] [] pos) X.env = (do
      let ov ← eval o X.env
      standAt apos.atName
      let (f, first) ← holding [ov] (getMethod ov m pl)
      callWith pos f first (backTo pos (starEach [] X.env)) (backToKw pos (keywordEach [] X.env))) := by rfl) :
    LF X (.Call (.Attribute o m apos) [] [] pos) (fMthSX C m S u s aNil) := by
  obtain ⟨f, fd, Gd, hm, hb⟩ := c.ex
  refine ⟨peImp (t := tMethE C m (liftX X.K S) (WD X.K u) (tVar s) (liftA X.K 0 aNil)) ⟨fun pins st σ H Q I h => PySem.W.methodCall_KW (pl := pl) (thn (ho.run pins st σ H _ I h) fun u0 s1 ⟨x, H1, I1, rx, a, dx, fs, ex, ea, l, q⟩ => by
      subst ex
      obtain rfl : u0 = Value.ref a := rx
      refine getmeth_ok I1 ea hc hm l ?_
      obtain ⟨G, ρ, F, Q', R, hq, k⟩ := q
      have q2 := k [] ρ [] H1 F hq rfl R (Same.refl _) .nil
      exact PySem.W.callWith_K0 (first := [.ref a]) I1.kIn hm.kp (runGS (us := [.ref a]) (vs := [.ref a]) Gd hr hgd hb (passAt tk σ) I1 (.cons rfl .nil) q2)) ht⟩ fun σ H Q h => tMethSX_of h⟩
theorem LF.mthSE [Pn] {S : XSpec} {pl : Sem Bool} (hc : Cls X.K C) (c : CalRE X.prog X.w X.K X.mg X.base k (Meth X.K C m) ps S) (hr : Room k X.A) (hgd : X.A.guards = some []) (tk : Takes X (WD X.K u)) (ho : PE X o (tVar s)) (ha : LA X (e :: es) tt)
    (ht : eval (.Call (.Attribute o m apos) (e :: es) [] pos) X.env = (do
      let ov ← eval o X.env
      standAt apos.atName
      let (f, first) ← holding [ov] (getMethod ov m pl)
      callWith pos f first (backTo pos (starEach (e :: es) X.env)) (backToKw pos (keywordEach [] X.env))) := by rfl)
    (he : starEach (e :: es) X.env = (false, eval e X.env) :: starEach es X.env := by rfl) (hpl : (backTo pos (starEach es X.env)).any (·.1) = false := by rfl) :
    LF X (.Call (.Attribute o m apos) (e :: es) [] pos) (fMthSX C m S u s tt) := by
  obtain ⟨f, fd, Gd, hm, hb⟩ := c.ex
  refine ⟨peImp (t := tMethE C m (liftX X.K S) (WD X.K u) (tVar s) (liftA X.K (e :: es).length tt)) ⟨fun pins st σ H Q I h => PySem.W.methodCall_KW (pl := pl) (thn (ho.run pins st σ H _ I h) fun u0 s1 ⟨x, H1, I1, rx, a, dx, fs, ex, ea, l, q⟩ => by
      subst ex
      obtain rfl : u0 = Value.ref a := rx
      refine getmeth_ok I1 ea hc hm l (PySem.W.callWith_K (h₀ := X.base) (first := [.ref a]) I.ok.mod.kin hm.kp (thn (ha.p.run pos pins s1 σ H1 _ I1 q) fun us s2 ⟨vs, H2, I2, r, q2⟩ => ⟨I2.kIn, ?_⟩) he hpl)
      exact runGS (us := .ref a :: us) (vs := .ref a :: vs) Gd hr hgd hb (passAt tk σ) I2 (.cons rfl r) q2) ht⟩ fun σ H Q h => tMethSX_of h⟩
/-! ### o[i], o[i] = e, len(o) -/
/-- the class at C has an own __getitem__, at f -/
structure GetC (K : PySem.W.Frag) (C f : Addr) : Prop where
  at_ : PySem.W.findIn K (.ref C) "__getitem__" = some (some (.ref f))
  fi : PySem.W.fnIn K f = true
  fn : PySem.W.isFn K (.ref f) = true
structure SetC (K : PySem.W.Frag) (C f : Addr) : Prop where
  at_ : PySem.W.findIn K (.ref C) "__setitem__" = some (some (.ref f))
  sq : PySem.W.noSeq K C = true
  fn : PySem.W.isFn K (.ref f) = true
structure LenC (K : PySem.W.Frag) (C f : Addr) : Prop where
  at_ : PySem.W.findIn K (.ref C) "__len__" = some (some (.ref f))
  fn : PySem.W.isFn K (.ref f) = true
theorem runGSin {fd : FuncData} {sp : Sp} {E : XK} {f : Addr} {pins : List (Addr × Obj)} {s : Shared} {Q : VK} {us : List Value} {vs : List V} (Gd : FnG X.prog X.w X.K X.mg X.base (L2.CX X.prog X.w) k f fd ps sp) (hr : Room (k + 1) X.A) (hgd : X.A.guards = some []) (hb : Binds X.K fd ps [])
    (hx : PassesAt (L2.CX X.prog X.w) X σ E) (I : Inv X pins σ H s) (r : Vals vs us) (h : sp vs H Q E) : wpAny (model X.prog X.w) X.A.in1 (call (.ref f) us) (EP X pins σ Q) X.xe s := by
  have e0 : Env0 X.prog X.w X.K X.mg X.base X.A.in1 X.stack s H := by
    have e := I.env0
    exact ⟨e.frames, e.mod, e.bs, e.bsz, e.funs, e.frf, e.hok, e.bare⟩
  have ll : us.length = ps.length := r.length.symm.trans (Gd.len _ _ _ _ h)
  have b := hb s us I.kIn (by rw [List.append_nil]; exact ll)
  rw [List.append_nil] at b
  refine wpAny_call (codeAny_mono (Gd.run X.A.in1 X.stack s H ⟨us, []⟩ us vs Q E hr.in1 hgd e0 b r h) fun res s' hq => ?_)
  rcases res with e' | fl
  · exact hx pins H s e' s' I hq
  · cases fl <;> first | exact I.after hq | exact False.elim hq
/-- s[i], s an own instance; it may raise -/
def fSubSX (C : Addr) (S : XSpec) (u : Xd → En → Prop) (s : Nat) (t : TD) : TF := fun ρ Q => isO C "" ρ s (t ρ fun x ρ1 => isO C "" ρ1 s (goX S u [.s s, .v x] ρ1 Q))
theorem LF.subS [Pn] {S : XSpec} (c : CalRE X.prog X.w X.K X.mg X.base k (GetC X.K C) ps S) (hr : Room (k + 1) X.A) (hgd : X.A.guards = some []) (tk : Takes X (WD X.K u)) (ho : PE X o (tVar s)) (hi : LD X i ti)
    (hsl : ∀ x v, subscripted i true (.ref x) v = runValue (.builtin "lifetime.subscript" ⟨[.ref x, v], []⟩) := by intro _ _; with_unfolding_all rfl) : LF X (.Subscript o i pos) (fSubSX C S u s ti) := by
  obtain ⟨f, fd, Gd, gc, hb⟩ := c.ex
  refine ⟨⟨fun pins st σ H Q I h => ?_⟩⟩
  obtain ⟨G, ρ, F, Q', R, q, c⟩ := h
  obtain ⟨q, a, dx, us, es, ea, hl⟩ := isO_of R q
  refine Subscript_ (thn (ho.run pins st σ H (fun x H1 => x = .ref a ∧ H1 = H) I ⟨_, es, rfl, rfl⟩) fun u0 s1 ⟨x, H1, I1, rx, ex, eH⟩ => ?_)
  subst ex eH
  obtain rfl : u0 = Value.ref a := rx
  refine thn (hi.p.run pins s1 σ H1 (fun y H2 => InsC X H2 a C ∧ liftX X.K S [.ref a, y] H2 Q (WE (WD X.K u) σ)) I1 ⟨G, ρ, F, _, R, q, fun x ρ1 v H2 F2 h1 R1 s1 d => ?_⟩) fun w s2 ⟨y, H2, I2, ry, hins, q2⟩ => ?_
  · obtain ⟨h1, a2, dx2, us2, es2, ea2, _⟩ := isO_of R1 h1
    rw [es] at es2
    have : a = a2 := by simpa using es2
    subst this
    exact ⟨.inr ⟨dx2, us2, ea2⟩, goX_of R1 (.cons (a := .s s) es (.cons (a := .v x) d .nil)) h1 fun l ρ' v H' F' hq R' s' r => c _ _ _ _ _ hq R' (s1.trans s') r⟩
  · obtain ⟨ox, od, J, hd⟩ := insC_at I2 hins
    obtain ⟨m, hF⟩ := I2.fr
    exact PySem.W.sub_K hF I2.ok.mod.kin J gc.at_ gc.fi gc.fn (runGSin (us := [.ref a, w]) (vs := [.ref a, y]) Gd hr hgd hb (passAt tk σ) I2 (.cons rfl (.cons ry .nil)) q2) (hsl _ _)
/-- s[i] = e, s an own instance; it may raise -/
def sSetSX (C : Addr) (S : XSpec) (u : Xd → En → Prop) (s : Nat) (t tv : TD) : TSt := fun D ρ => tv ρ fun y ρ1 => isO C "" ρ1 s (t ρ1 fun x ρ2 => isO C "" ρ2 s (goX S u [.s s, .v x, .v y] ρ2 fun _ ρ3 => D.nx ρ3))
theorem LS.setS [Pn] {S : XSpec} (c : CalRE X.prog X.w X.K X.mg X.base k (SetC X.K C) ps S) (hr : Room k X.A) (hgd : X.A.guards = some []) (tk : Takes X (WD X.K u)) (ho : PE X o (tVar s)) (hi : LD X i ti) (hv : LD X e tv)
    (hs : swapsWith e (some (.Subscript o i p2)) pos.line X.env = pure false := by rfl) : LS X (.Assign [.Subscript o i p2] e pos) (sSetSX C S u s ti tv) := by
  obtain ⟨f, fd, Gd, gc, hb⟩ := c.ex
  refine ⟨⟨fun pins st σ H D I h => ?_⟩⟩
  obtain ⟨G, ρ, F, D', R, q, k⟩ := h
  refine wpAny_Assign_Subscript (thn (hv.p.run pins st σ H (fun z H1 => ∃ a, σ[s]? = some (some (.ref a)) ∧ liftD X.K ti σ H1 fun y H2 => InsC X H2 a C ∧ liftX X.K S [.ref a, y, z] H2 (fun _ H3 => D.nx σ H3) (WE (WD X.K u) σ)) I ⟨G, ρ, F, _, R, q, fun z ρ1 w H1 F1 h1 R1 s1 dz => ?_⟩) fun r s1 ⟨z, H1, I1, rz, a, es, q1⟩ => ?_) hs
  · obtain ⟨h1, a, dx, us, es, ea, _⟩ := isO_of R1 h1
    refine ⟨a, es, G, ρ1, F1, _, R1, h1, fun x ρ2 v H2 F2 h2 R2 s2 d => ?_⟩
    obtain ⟨h2, a2, dx2, us2, es2, ea2, _⟩ := isO_of R2 h2
    rw [es] at es2
    have : a = a2 := by simpa using es2
    subst this
    exact ⟨.inr ⟨dx2, us2, ea2⟩, goX_of R2 (.cons (a := .s s) es (.cons (a := .v x) d (.cons (a := .v z) (dz.mono s2) .nil))) h2 fun l ρ' v H' F' hq R' s' r => k.nx _ _ _ _ hq R' (s1.trans (s2.trans s'))⟩
  · refine thn (ho.run pins s1 σ H1 (fun x H2 => x = .ref a ∧ H2 = H1) I1 ⟨_, es, rfl, rfl⟩) fun u0 s2 ⟨x, H2, I2, rx, ex, eH⟩ => ?_
    subst ex eH
    obtain rfl : u0 = Value.ref a := rx
    refine thn (hi.p.run pins s2 σ H2 _ I2 q1) fun w s3 ⟨y, H3, I3, ry, hins, q2⟩ => ?_
    obtain ⟨ox, od, J, hd⟩ := insC_at I3 hins
    obtain ⟨m, hF⟩ := I3.fr
    refine PySem.W.ksp_setItem hF I3.ok.mod.kin J gc.sq gc.at_ gc.fn (wpAny_mono (runGS (us := [.ref a, w, r]) (vs := [.ref a, y, z]) Gd hr hgd hb (passAt tk σ) I3 (.cons rfl (.cons ry (.cons rz .nil))) q2) (fun v s' hz => ?_) fun _ _ e => e)
    obtain ⟨v', H', I', _, q'⟩ := hz
    exact ⟨σ, H', I', q'⟩
/-- len(s), s an own instance -/
def dLenS (C : Addr) (S : FSpec) (s : Nat) : TD := fun ρ Q => isO C "" ρ s (goC S [.s s] ρ fun l ρ1 => ∃ n : Nat, l = .d (.int n) ∧ n < 1000000 ∧ Q (.int n) ρ1)
def rLenO (X : Cx) (C : Addr) (sp : Sp) : List V → Hp → VK → Prop := fun xs H Q => ∃ a dx us, xs = [V.ref a] ∧ H a = some (.ins C dx us) ∧ sp [.ref a] H (fun v H2 => ∃ n : Nat, v = .int n ∧ n < 1000000 ∧ Q (.int n) H2) E0
theorem cr_lenO {S : FSpec} {f : Addr} {fd : FuncData} (lc : LenC X.K C f) (Gd : FnG X.prog X.w X.K X.mg X.base CX0 k f fd ps (liftC X.K S)) (hr : Room (k + 1) X.A) (hgd : X.A.guards = some []) (hb : Binds X.K fd ps []) : CallR X (.builtin "len") (rLenO X C (liftC X.K S)) := by
  intro pins s σ H xs us Q I r h
  obtain ⟨a, dx, fs, rfl, ea, h⟩ := h
  obtain ⟨u, rfl, rx⟩ := vals1 r
  obtain rfl : u = Value.ref a := rx
  obtain ⟨mA, J, _⟩ := ins_get I.hok ea
  obtain ⟨od, J, _⟩ := J.look
  refine Calls.call_function_entry kind_len plain_len entry_len (args_len1 _) ?_
  unfold Builtin.«len»
  refine wpAny_bind (m := oneArg "len" _) (wpAny_pure ?_)
  refine wpAny_bind (m := callSpecial? (.ref a) (Str.ofString "__len__")) (PySem.W.special_fn I.kIn J lc.at_ (beq_iff_eq.mp lc.fn) (wpAny_mono (runIn (us := [.ref a]) (vs := [V.ref a]) Gd hr hgd hb I (.cons rfl .nil) h) (fun v s' hz => ?_) fun _ _ e => e))
  obtain ⟨v', H', I', rv, n, rfl, hn, q⟩ := hz
  obtain ⟨t, rfl⟩ := rv
  refine wpAny_bind (wpAny_holding (wpAny_pure ?_))
  refine wpAny_bind (wpAny_letGo ?_)
  show wpAny _ _ (if ((n : Nat) : Int) < 0 then _ else _) _ _ _
  rw [if_neg (by omega)]
  show wpAny _ _ (if ((n : Nat) : Int) ≥ 2 ^ 63 then _ else _) _ _ _
  rw [if_neg (by omega)]
  exact wpAny_bind (wpAny_mkInt (wpAny_pure ⟨_, rfl, .int n, H', I'.tok _, ⟨_, rfl⟩, q⟩))
theorem LD.lenS [Pn] {S : FSpec} {p p3 : Pos} (c : CalR X.prog X.w X.K X.mg X.base k (LenC X.K C) ps S) (hr : Room (k + 1) X.A) (hgd : X.A.guards = some []) (hg : Gl X "len") (hm : X.mg "len" = none) (hv : bootBuiltins "len" = some (.builtin "len")) (ho : PE X o (tVar s)) (hs : starEach [o] X.env = (false, eval o X.env) :: starEach [] X.env := by rfl) (hpl : (backTo p3 (starEach [] X.env)).any (·.1) = false := by rfl) : LD X (.Call (.Name "len" p) [o] [] p3) (dLenS C S s) := by
  obtain ⟨f, fd, Gd, lc, hb⟩ := c.ex
  refine ⟨peImp (pe_callB (t := tCons (tVar s) tNil) (cr_lenO lc Gd hr hgd hb) hg hm hv (pa_cons ho pa_nil hs) (by decide) (by decide) hs hpl) fun σ H Q ⟨G, ρ, F, Q', R, q, c⟩ => ?_⟩
  obtain ⟨q, a, dx, us, es, ea, _⟩ := isO_of R q
  refine ⟨_, es, a, dx, us, rfl, ea, goC_of R (.cons (a := .s s) es .nil) q fun l ρ' v H' F' hq R' s' r => ?_⟩
  obtain ⟨n, rfl, hn, hq⟩ := hq
  have r : Df X.K F' v (.int n) := r
  cases r
  exact ⟨n, rfl, hn, c _ _ _ _ _ hq R' s' (.int _)⟩
/-- C(e, ..), an instance with own lists -/
theorem LF.mkCN [Pn] {S : FSpec} {n : Str} {p : Pos} (c : CalR X.prog X.w X.K X.mg X.base k (Mk X.K C) ps S) (hr : Room (k + 1) X.A) (hgd : X.A.guards = some []) (hg : Gl X n) (hm : X.mg n = some (.ref C)) (ha : LA X (e :: es) tt)
    (hdb : (n == ("__debug__" : Str)) = false := by decide) (he : starEach (e :: es) X.env = (false, eval e X.env) :: starEach es X.env := by rfl) (hpl : (backTo pos (starEach es X.env)).any (·.1) = false := by rfl) :
    LF X (.Call (.Name n p) (e :: es) [] pos) (fMakeN C S [] tt) := by
  obtain ⟨f, fd, h1, h2, h3⟩ := c.ex
  exact LF.makeN h2 h1 hr hgd hg hm h3 .nil (fun _ => .nil) ha hdb he hpl
/-- for .. in s.f, which stays -/
def sForN (src : TId) (pt : Pt) (b : TSt) : TSt := fun D ρ => src ρ fun w ρ1 => ∃ s f bb xs, w = .nst s f bb xs ∧ ∃ I : Nat → En → Prop, I 0 ρ1 ∧ (∀ i ρ2, I i ρ2 → (Wk.nst s f bb xs).keeps ρ2) ∧
  (∀ i x ρ2, xs[i]? = some x → I i ρ2 → pt.go x ρ2 fun ρ3 => b { D with nx := I (i + 1), ct := I (i + 1), bk := D.nx } ρ3) ∧ ∀ ρ2, I xs.length ρ2 → D.nx ρ2
theorem LS.forN [Pn] {tg : Expr} {sts : List Stmt} {t : TSt} {src : TId} {pt : Pt} (hp : PassesOwn (model X.prog X.w) X.A X.env X.xe) (hc : X.calm = true) (hi : LI X tg e src) (hg : PG X tg (pt.tg X.K)) (hb : LSs X sts t)
    (hs : ∀ x, foldedSetIterable e X.env x = pure x := by intro _; rfl) : LS X (.For tg e sts [] pos) (sForN src pt t) := ⟨psImp (ps_for hp hc hi.p hg hb.p hs) fun D σ H ⟨G, ρ, F, D', R, q, k⟩ => ⟨G, ρ, F, _, R, q, fun w ρ1 H1 F1 J h1 R1 s1 wk => by
  obtain ⟨sl, nm, bb, xs, rfl, I, i0, kp, turn, fin⟩ := h1
  refine ⟨fun i m σ H => m = xs.length - i ∧ i ≤ xs.length ∧ ∃ ρ2 F2, Rel X.K G ρ2 F2 σ H ∧ Same F1 F2 ∧ I i ρ2, ⟨xs.length, rfl, Nat.zero_le _, ρ1, F1, R1, Same.refl _, i0⟩, ?_⟩
  rintro i m σ2 H2 ⟨rfl, hi, ρ2, F2, R2, s2, i2⟩
  obtain ⟨wstop, wgo⟩ := wk G i ρ2 F2 σ2 H2 R2 s2 (kp i ρ2 i2) trivial
  by_cases hlt : i < xs.length
  · obtain ⟨go, yld⟩ := wgo hlt
    refine .inr ⟨go, fun σ' H' => ∃ ρ' F', Rel X.K G ρ' F' σ' H' ∧ Same F1 F' ∧ I (i + 1) ρ', fun σ' H' ⟨ρ', F', R', s', i'⟩ => ⟨_, by omega, rfl, hlt, ρ', F', R', s', i'⟩, fun x H' y => ?_⟩
    obtain ⟨F', d, g, ed, dd⟩ := yld x H' y
    refine pt_go pt (R2.grow g) dd (turn i d ρ2 ed i2) fun ρ3 σ3 q3 R3 _ => ?_
    have s3 := s1.trans (s2.trans g.ff)
    exact ⟨G, ρ3, F', _, R3, q3, ⟨fun ρ4 σ4 H4 F4 h R s => ⟨ρ4, F4, R, (s2.trans g.ff).trans s, h⟩, fun l ρ4 v σ4 H4 F4 h R s r => k.rt _ _ _ _ _ _ h R (s3.trans s) r,
      fun ρ4 σ4 H4 F4 h R s => k.nx _ _ _ _ h R (s3.trans s), fun ρ4 σ4 H4 F4 h R s => ⟨ρ4, F4, R, (s2.trans g.ff).trans s, h⟩⟩⟩
  · have ei : i = xs.length := by omega
    subst ei
    exact .inl ⟨wstop (Nat.le_refl _), k.nx _ _ _ _ (fin ρ2 i2) R2 (s1.trans s2)⟩⟩⟩
end
end DL
/-! Dials: what their defs promise. -/
namespace DL
open PySem L2 PyProof.Rows
/-! ### pairs in order -/
def insP (p : P2) : List P2 → List P2
  | [] => [p]
  | q :: r => if p.1 < q.1 ∨ (p.1 = q.1 ∧ p.2 ≤ q.2) then p :: q :: r else q :: insP p r
def srtP : List P2 → List P2
  | [] => []
  | p :: r => insP p (srtP r)
theorem insP_perm (p : P2) : ∀ l : List P2, (insP p l).Perm (p :: l)
  | [] => List.Perm.refl _
  | q :: r => by
    unfold insP
    split
    · exact List.Perm.refl _
    · exact ((insP_perm p r).cons q).trans (List.Perm.swap p q r)
theorem srtP_perm : ∀ l : List P2, (srtP l).Perm l
  | [] => List.Perm.refl _
  | p :: r => (insP_perm p (srtP r)).trans ((srtP_perm r).cons p)
theorem lexLe_trans {p q r : P2} (h : lexLe p q) (g : lexLe q r) : lexLe p r := by
  unfold lexLe at *
  omega
theorem insP_pw {p : P2} : ∀ {l : List P2}, l.Pairwise lexLe → (insP p l).Pairwise lexLe
  | [], _ => by unfold insP; exact List.pairwise_singleton _ _
  | q :: r, h => by
    unfold insP
    rw [List.pairwise_cons] at h
    split
    · rename_i c
      rw [List.pairwise_cons]
      refine ⟨fun x hx => ?_, List.pairwise_cons.mpr h⟩
      have c : lexLe p q := c
      rcases List.mem_cons.mp hx with rfl | hx
      · exact c
      · exact lexLe_trans c (h.1 x hx)
    · rename_i c
      rw [List.pairwise_cons]
      refine ⟨fun x hx => ?_, insP_pw h.2⟩
      have hx := (insP_perm p r).mem_iff.mp hx
      rcases List.mem_cons.mp hx with rfl | hx
      · unfold lexLe; omega
      · exact h.1 x hx
theorem srtP_pw : ∀ l : List P2, (srtP l).Pairwise lexLe
  | [] => List.Pairwise.nil
  | p :: r => insP_pw (srtP_pw r)
theorem srtP_uniq {l qs : List P2} (h : qs.Perm l) (hp : qs.Pairwise lexLe) : qs = srtP l :=
  List.Perm.eq_of_pairwise (fun a b _ _ h1 h2 => by
    unfold lexLe at h1 h2
    exact Prod.ext (by omega) (by omega)) hp (srtP_pw l) (h.trans (srtP_perm l).symm)
/-! ### a dial -/
def dl (p : Option Nat) (C : Addr) (n : Nat) (b d : Addr) (st un : List P2) : Lc := .nb p C [("clock", .int (n : Nat))] [("standing", b, st.map prI), ("undone", d, un.map prI)]
def HrP (n : Nat) (p : P2) : Prop := (0 ≤ p.1 ∧ p.1 < (n : Int)) ∧ 0 ≤ p.2 ∧ p.2 < (n : Int)
structure DOk (n : Nat) (st un : List P2) : Prop where
  n0 : 0 < n
  n1 : n ≤ 61
  ln : st.length + un.length ≤ 8
  sb : ∀ p ∈ st, HrP n p
  ub : ∀ p ∈ un, HrP n p
def isHr (n : Nat) : PD → Bool
  | .int i => decide (0 ≤ i) && decide (i < (n : Int))
  | _ => false
theorem isHr_int {n : Nat} {x : PD} (h : isHr n x = true) : ∃ i : Int, x = .int i ∧ 0 ≤ i ∧ i < (n : Int) := by
  cases x <;> simp [isHr] at h
  exact ⟨_, rfl, h.1, h.2⟩
def getV (st : List P2) (i : Int) : PD := match st.find? (fun p => decide (p.1 = i)) with
  | some p => .int p.2
  | none => .none
def S_dinit (C : Addr) : FSpec := ⟨fun args Q => ∃ (n : Nat), args = [.ob (some 0) C [], .d (.int (n : Nat))] ∧ ∀ b d, Q (.d .none) [dl (some 0) C n b d [] []]⟩
abbrev N_m_Dial_init : List Str := ["self", "clock"]
def ir_m_Dial_init (C_Dial : Addr) : TSt :=
  (sSeq (sSetF C_Dial 0 "clock" (dVar 1))
    (sSeq (sSetN C_Dial 0 "standing" (fLst aNil))
    (sSetN C_Dial 0 "undone" (fLst aNil))))

theorem sp_dinit (C : Addr) : ∀ args Q, (S_dinit C).sp args Q → ir_m_Dial_init C (endsOf args Q) (rho0 N_m_Dial_init args) := by
  rintro args Q ⟨n, rfl, q⟩
  exact ⟨rfl, by decide, rfl, rfl, (by show (1 : Nat) < 1000; decide), fun b => ⟨rfl, rfl, (by show (1 : Nat) + 1 < 1000; decide), fun d => q b d⟩⟩
def isI : PD → Bool
  | .int _ => true
  | _ => false
def S_isD (C : Addr) : FSpec := ⟨fun args Q => ∃ (x : PD), args = [.d x] ∧ plainD x = true ∧ Q (.d (.bool (isI x))) []⟩
abbrev N_is_integer_D : List Str := ["value"]
def ir_is_integer_D (C_Dial : Addr) : TSt :=
  (sRet (fD (dAnd (dIsiI C_Dial "int" (.s 0)) (dNot (dIsiI C_Dial "bool" (.s 0))))))

theorem sp_isD (C : Addr) : ∀ args Q, (S_isD C).sp args Q → ir_is_integer_D C (endsOf args Q) (rho0 N_is_integer_D args) := by
  rintro args Q ⟨x, rfl, hx, q⟩
  cases x with
  | none => exact .inl ⟨rfl, nofun, fun _ => q⟩
  | bool b => exact .inl ⟨rfl, fun _ => .inl ⟨rfl, q⟩, nofun⟩
  | int i => exact .inl ⟨rfl, fun _ => .inl ⟨rfl, q⟩, nofun⟩
  | str z => exact .inl ⟨rfl, nofun, fun _ => q⟩
  | list xs => exact .inl ⟨rfl, nofun, fun _ => q⟩
  | tuple xs => exact .inl ⟨rfl, nofun, fun _ => q⟩
  | dict es => simp [plainD] at hx
def S_reqX (C CN : Addr) : XSpec := ⟨fun args Q E => ∃ (n : Nat) (b d : Addr) (st un : List P2) (x : PD), args = [dl (some 0) C n b d st un, .d x] ∧ plainD x = true ∧ (isHr n x = true → Q (.d .none) [dl (some 0) C n b d st un]) ∧ (isHr n x = false → E (CN, [(.str "value", x)]) [dl (some 0) C n b d st un])⟩
abbrev N_m_Dial_require_e : List Str := ["self", "value"]
def ir_m_Dial_require_e (C_Dial : Addr) (C_NoHour : Addr) (S_is_integer_D : FSpec) (u : Xd → En → Prop) : TSt :=
  (sIf (tOrD (tNotD (tVal (dFz (fCall S_is_integer_D (aCons (.e (dVar 1)) aNil))))) (tOrD (tVal (dBin cLt (.s 1) (.e (dC (.int 0))))) (tVal (dBin cGe (.s 1) (.e (dFldS C_Dial 0 "clock")))))) (sRaise C_NoHour ["value"] u (aCons (.e (dVar 1)) aNil)) sNext)

theorem sp_reqX (C CN CI : Addr) : ∀ args Q E, (S_reqX C CN).sp args Q E → ir_m_Dial_require_e C CN (S_isD CI) (endsX args E) (endsOf args Q) (rho0 N_m_Dial_require_e args) := by
  rintro args Q E ⟨n, b, d, st, un, x, rfl, hx, q, qe⟩
  have odd : isI x = false → isHr n x = false := fun h => by cases x <;> first | rfl | (simp [isI] at h)
  refine ⟨rfl, x, rfl, hx, ?_⟩
  cases hi : isI x with
  | false => exact ⟨fun _ => ⟨fun _ => ⟨rfl, qe (odd hi)⟩, nofun⟩, nofun⟩
  | true =>
    obtain ⟨i, rfl⟩ : ∃ i, x = .int i := by cases x <;> simp [isI] at hi; exact ⟨_, rfl⟩
    refine ⟨nofun, fun _ => ⟨fun h => ?_, fun h => ⟨rfl, _, rfl, fun g => ?_, fun g => ?_⟩⟩⟩
    · have h : i < 0 := of_decide_eq_true h
      exact ⟨fun _ => ⟨rfl, qe (by show (decide (0 ≤ i) && decide (i < (n : Int))) = false; rw [decide_eq_false (p := 0 ≤ i) (by omega), Bool.false_and])⟩, nofun⟩
    · have g : (n : Int) ≤ i := of_decide_eq_true g
      exact ⟨rfl, qe (by show (decide (0 ≤ i) && decide (i < (n : Int))) = false; rw [decide_eq_false (p := i < (n : Int)) (by omega), Bool.and_false])⟩
    · have h : ¬ i < 0 := of_decide_eq_false h
      have g : ¬ (n : Int) ≤ i := of_decide_eq_false g
      exact q (by show (decide (0 ≤ i) && decide (i < (n : Int))) = true; rw [decide_eq_true (p := 0 ≤ i) (by omega), decide_eq_true (p := i < (n : Int)) (by omega)]; rfl)
def S_getX (C CN : Addr) : XSpec := ⟨fun args Q E => ∃ (n : Nat) (b d : Addr) (st un : List P2) (x : PD), args = [dl (some 0) C n b d st un, .d x] ∧ plainD x = true ∧ (∀ i : Int, x = .int i → 0 ≤ i → i < (n : Int) → Q (.d (getV st i)) [dl (some 0) C n b d st un]) ∧ (isHr n x = false → E (CN, [(.str "value", x)]) [dl (some 0) C n b d st un])⟩
abbrev N_m_Dial_getitem_e : List Str := ["self", "at", "place", "hour"]
def ir_m_Dial_getitem_e (C_Dial : Addr) (S_m_Dial_require_e : XSpec) (u : Xd → En → Prop) : TSt :=
  (sSeq (sDrop (dFz (fMthSX C_Dial "require" S_m_Dial_require_e u 0 (aCons (.e (dVar 1)) aNil))))
    (sSeq (sForN (iFld C_Dial 0 "standing") (.tp [2, 3]) (sIf (tVal (dBin cEq (.s 2) (.s 1))) (sRetV 3) sNext))
    (sRet (fD (dC (.none))))))

theorem find_take {st : List P2} {i : Int} {j : Nat} {p : P2} (e : st[j]? = some p) (hf : (st.take j).find? (fun p => decide (p.1 = i)) = none) : (p.1 = i → st.find? (fun p => decide (p.1 = i)) = some p) ∧ (p.1 ≠ i → (st.take (j + 1)).find? (fun p => decide (p.1 = i)) = none) := by
  constructor
  · intro h
    obtain ⟨hj, ej⟩ := List.getElem?_eq_some_iff.mp e
    have e2 : st = st.take j ++ p :: st.drop (j + 1) := by
      rw [← ej, List.getElem_cons_drop, List.take_append_drop]
    rw [e2, List.find?_append, hf, Option.none_or, List.find?_cons, decide_eq_true h]
  · intro h
    rw [List.take_add_one, e, List.find?_append, hf, Option.none_or, Option.toList_some, List.find?_cons, decide_eq_false h]; rfl
theorem sp_getX (C CN : Addr) : ∀ args Q E, (S_getX C CN).sp args Q E → ir_m_Dial_getitem_e C (S_reqX C CN) (endsX args E) (endsOf args Q) (rho0 N_m_Dial_getitem_e args) := by
  rintro args Q E ⟨n, b, d, st, un, x, rfl, hx, q, qe⟩
  refine ⟨rfl, rfl, rfl, rfl, n, b, d, st, un, x, rfl, hx, fun h => ?_, fun h => qe h⟩
  obtain ⟨i, rfl, i0, i1⟩ := isHr_int h
  have q := q i rfl i0 i1
  refine ⟨rfl, rfl, _, _, _, _, rfl, fun j ρ => ∃ (s2 s3 : Option Lc), ρ = [some (dl (some 0) C n b d st un), some (.d (.int i)), s2, s3] ∧ (st.take j).find? (fun p => decide (p.1 = i)) = none, ⟨none, none, rfl, rfl⟩, ?_, ?_, ?_⟩
  · rintro j ρ ⟨s2, s3, rfl, _⟩
    exact ⟨_, _, _, _, rfl, rfl⟩
  · rintro j y ρ hy ⟨s2, s3, rfl, hf⟩
    have hy : (st.map prI)[j]? = some y := hy
    rw [List.getElem?_map] at hy
    obtain ⟨p, hp, rfl⟩ := Option.map_eq_some_iff.mp hy
    obtain ⟨h1, h2⟩ := find_take hp hf
    refine ⟨rfl, fun h => ?_, fun h => ?_⟩
    · have h : p.1 = i := of_decide_eq_true h
      have : getV st i = .int p.2 := by unfold getV; rw [h1 h]
      rw [this] at q
      exact q
    · have h : ¬ p.1 = i := of_decide_eq_false h
      exact ⟨_, _, rfl, h2 h⟩
  · rintro ρ ⟨s2, s3, rfl, hf⟩
    have hf : (st.take (st.map prI).length).find? (fun p => decide (p.1 = i)) = none := hf
    rw [List.length_map, List.take_length] at hf
    have : getV st i = .none := by unfold getV; rw [hf]
    rw [this] at q
    exact q
def S_setX (C CN CT CF : Addr) : XSpec := ⟨fun args Q E => ∃ (n : Nat) (b d : Addr) (st un : List P2) (x y : PD), args = [dl (some 0) C n b d st un, .d x, .d y] ∧ st.length ≤ 8 ∧ plainD x = true ∧ plainD y = true ∧
  (isHr n x = false → E (CN, [(.str "value", x)]) [dl (some 0) C n b d st un]) ∧ (isHr n x = true → isHr n y = false → E (CN, [(.str "value", y)]) [dl (some 0) C n b d st un]) ∧
  (∀ i j : Int, x = .int i → y = .int j → (0 ≤ i ∧ i < (n : Int)) → (0 ≤ j ∧ j < (n : Int)) →
    (isNone (getV st i) = false → E (CT, [(.str "at", .int i)]) [dl (some 0) C n b d st un]) ∧
    (isNone (getV st i) = true → st.length = 8 → E (CF, []) [dl (some 0) C n b d st un]) ∧
    (isNone (getV st i) = true → st.length ≠ 8 → ∀ d', Q (.d .none) [dl (some 0) C n b d' (st ++ [(i, j)]) []]))⟩
abbrev N_m_Dial_setitem_e : List Str := ["self", "at", "hour"]
def ir_m_Dial_setitem_e (C_Dial : Addr) (C_Told : Addr) (C_Full : Addr) (S_m_Dial_require_e : XSpec) (S_m_Dial_getitem_e : XSpec) (u : Xd → En → Prop) : TSt :=
  (sSeq (sDrop (dFz (fMthSX C_Dial "require" S_m_Dial_require_e u 0 (aCons (.e (dVar 1)) aNil))))
    (sSeq (sDrop (dFz (fMthSX C_Dial "require" S_m_Dial_require_e u 0 (aCons (.e (dVar 2)) aNil))))
    (sSeq (sIf (tVal (dBin cNotN (.e (dFz (fSubSX C_Dial S_m_Dial_getitem_e u 0 (dVar 1)))) (.e (dC (.none))))) (sRaise C_Told ["at"] u (aCons (.e (dVar 1)) aNil)) sNext)
    (sSeq (sIf (tVal (dBin cEq (.e (dBi bLen (aCons (.f C_Dial 0 "standing") aNil))) (.e (dC (.int 8))))) (sRaise0 C_Full u) sNext)
    (sSeq (sAppN C_Dial 0 "standing" (dTup (aCons (.e (dVar 1)) (aCons (.e (dVar 2)) aNil))))
    (sSetN C_Dial 0 "undone" (fLst aNil)))))))

theorem sp_setX (C CN CT CF : Addr) : ∀ args Q E, (S_setX C CN CT CF).sp args Q E → ir_m_Dial_setitem_e C CT CF (S_reqX C CN) (S_getX C CN) (endsX args E) (endsOf args Q) (rho0 N_m_Dial_setitem_e args) := by
  rintro args Q E ⟨n, b, d, st, un, x, y, rfl, hl, hx, hy, q1, q2, q3⟩
  have bigS : sizeLine = 16777216 := sizeLine_eq
  refine ⟨rfl, rfl, rfl, rfl, n, b, d, st, un, x, rfl, hx, fun h1 => ?_, fun h => q1 h⟩
  refine ⟨rfl, rfl, rfl, rfl, n, b, d, st, un, y, rfl, hy, fun h2 => ?_, fun h => q2 h1 h⟩
  obtain ⟨i, rfl, i0, i1⟩ := isHr_int h1
  obtain ⟨j, rfl, j0, j1⟩ := isHr_int h2
  obtain ⟨q3, q4, q5⟩ := q3 i j rfl rfl ⟨i0, i1⟩ ⟨j0, j1⟩
  refine ⟨rfl, rfl, rfl, rfl, rfl, rfl, rfl, n, b, d, st, un, _, rfl, rfl, fun i' ei _ _ => ?_, fun h => by rw [h1] at h; cases h⟩
  cases ei
  refine ⟨rfl, fun h => ?_, fun h => ?_⟩
  · have h : (!isNone (getV st i)) = true := h
    exact ⟨rfl, q3 (by simpa using h)⟩
  have h : (!isNone (getV st i)) = false := h
  have h : isNone (getV st i) = true := by simpa using h
  have e : (st.map prI).length = st.length := List.length_map _
  refine ⟨rfl, rfl, rfl, fun h2 => ?_, fun h2 => ?_⟩
  · have h2 : ((st.map prI).length : Int) = 8 := of_decide_eq_true h2
    exact q4 h (by omega)
  · have h2 : ¬ ((st.map prI).length : Int) = 8 := of_decide_eq_false h2
    refine ⟨rfl, rfl, rfl, by rw [e, bigS]; omega, rfl, rfl, (by show (1 : Nat) + 2 < 1000; decide), fun d' => ?_⟩
    have := q5 h (by omega) d'
    unfold dl at this
    rw [List.map_append] at this
    exact this
def S_dlen (C : Addr) : FSpec := ⟨fun args Q => ∃ (n : Nat) (b d : Addr) (st un : List P2), args = [dl (some 0) C n b d st un] ∧ Q (.d (.int (st.length : Nat))) [dl (some 0) C n b d st un]⟩
abbrev N_m_Dial_len : List Str := ["self"]
def ir_m_Dial_len (C_Dial : Addr) : TSt :=
  (sRet (fD (dBi bLen (aCons (.f C_Dial 0 "standing") aNil))))

theorem sp_dlen (C : Addr) : ∀ args Q, (S_dlen C).sp args Q → ir_m_Dial_len C (endsOf args Q) (rho0 N_m_Dial_len args) := by
  rintro args Q ⟨n, b, d, st, un, rfl, q⟩
  refine ⟨rfl, rfl, rfl, ?_⟩
  have e : (st.map prI).length = st.length := List.length_map _
  rw [← e] at q
  exact q
def S_dtold (C : Addr) : FSpec := ⟨fun args Q => ∃ (n : Nat) (b d : Addr) (st un : List P2), args = [dl (some 0) C n b d st un] ∧ DOk n st un ∧ Q (.d (.tuple ((srtP st).map prI))) [dl (some 0) C n b d st un]⟩
abbrev N_m_Dial_told : List Str := ["self"]
def ir_m_Dial_told (C_Dial : Addr) : TSt :=
  (sRet (fD (dBi bTuple (aCons (.e (dBi (bSortP 1000) (aCons (.f C_Dial 0 "standing") aNil))) aNil))))

theorem sp_dtold (C : Addr) : ∀ args Q, (S_dtold C).sp args Q → ir_m_Dial_told C (endsOf args Q) (rho0 N_m_Dial_told args) := by
  rintro args Q ⟨n, b, d, st, un, rfl, ok, q⟩
  have n1 := ok.n1
  refine ⟨rfl, rfl, rfl, st, rfl, by have := ok.ln; omega, fun p hp => ?_, fun qs h1 h2 => ?_⟩
  · obtain ⟨⟨a1, a2⟩, a3, a4⟩ := ok.sb p hp
    exact ⟨⟨a1, by omega⟩, a3, by omega⟩
  · rw [srtP_uniq h1 h2]
    exact q
theorem eqv_nilD (xs : List PD) : PyData.eqv (.list xs) (.list []) = xs.isEmpty := by
  cases xs <;> simp [PyData.eqv, PyData.eqvAll]
theorem pr_shp (st : List P2) : shp (.list (st.map prI)) := (Shp.list (n := 1) fun x hx => by
  obtain ⟨p, _, rfl⟩ := List.mem_map.mp hx
  exact Shp.tup (n := 0) fun y hy => by
    simp only [List.mem_cons, List.not_mem_nil, or_false] at hy
    rcases hy with rfl | rfl <;> exact .int _).shp
def S_undoX (C CE : Addr) : XSpec := ⟨fun args Q E => ∃ (n : Nat) (b d : Addr) (st un : List P2), args = [dl (some 0) C n b d st un] ∧ un.length ≤ 8 ∧ (st = [] → E (CE, []) [dl (some 0) C n b d st un]) ∧ (∀ p, st.getLast? = some p → Q (.d (.int p.1)) [dl (some 0) C n b d st.dropLast (un ++ [p])])⟩
abbrev N_m_Dial_undo_e : List Str := ["self"]
def ir_m_Dial_undo_e (C_Dial : Addr) (C_NothingTold : Addr) (u : Xd → En → Prop) : TSt :=
  (sSeq (sIf (tVal (dBin cEq (.f C_Dial 0 "standing") (.e (dFz (fLst aNil))))) (sRaise0 C_NothingTold u) sNext)
    (sSeq (sAppN C_Dial 0 "undone" (dPopN C_Dial 0 "standing"))
    (sRet (fD (dBin bIx (.e (dBin bIx (.f C_Dial 0 "undone") (.e (dNeg (.e (dC (.int 1))))))) (.e (dC (.int 0))))))))

theorem sp_undoX (C CE : Addr) : ∀ args Q E, (S_undoX C CE).sp args Q E → ir_m_Dial_undo_e C CE (endsX args E) (endsOf args Q) (rho0 N_m_Dial_undo_e args) := by
  rintro args Q E ⟨n, b, d, st, un, rfl, hl, qe, q⟩
  have bigS : sizeLine = 16777216 := sizeLine_eq
  refine ⟨rfl, rfl, rfl, ?_⟩
  rcases List.eq_nil_or_concat st with rfl | ⟨st', p, rfl⟩
  · exact ⟨(Shp.list (n := 1) (by simp)).shp, (Shp.list (n := 0) (by simp)).shp, fun _ => qe rfl, fun h => by
      have h : PyData.eqv (.list []) (.list []) = false := h
      rw [eqv_nilD] at h; cases h⟩
  · rw [List.concat_eq_append] at *
    have q := q p (by simp)
    have e1 : (st' ++ [p]).map prI = st'.map prI ++ [prI p] := by rw [List.map_append]; rfl
    refine ⟨pr_shp _, (Shp.list (n := 0) (by simp)).shp, fun h => ?_, fun _ => ?_⟩
    · have h : PyData.eqv (.list ((st' ++ [p]).map prI)) (.list []) = true := h
      rw [eqv_nilD, e1] at h
      simp at h
    · refine ⟨rfl, rfl, rfl, rfl, prI p, by rw [e1]; simp, rfl, by rw [List.length_map, bigS]; omega, rfl, rfl, rfl, prI p, ?_, .int p.1, rfl, ?_⟩
      · show atI (un.map prI ++ [prI p]) (-1) = some (prI p)
        exact atI_last _ _
      · unfold dl at q
        rw [List.map_append, List.dropLast_concat] at q
        rw [e1, List.dropLast_concat]
        exact q
def S_redoX (C CE : Addr) : XSpec := ⟨fun args Q E => ∃ (n : Nat) (b d : Addr) (st un : List P2), args = [dl (some 0) C n b d st un] ∧ st.length ≤ 8 ∧ (un = [] → E (CE, []) [dl (some 0) C n b d st un]) ∧ (∀ p, un.getLast? = some p → Q (.d (.int p.1)) [dl (some 0) C n b d (st ++ [p]) un.dropLast])⟩
abbrev N_m_Dial_redo_e : List Str := ["self"]
def ir_m_Dial_redo_e (C_Dial : Addr) (C_NothingUndone : Addr) (u : Xd → En → Prop) : TSt :=
  (sSeq (sIf (tVal (dBin cEq (.f C_Dial 0 "undone") (.e (dFz (fLst aNil))))) (sRaise0 C_NothingUndone u) sNext)
    (sSeq (sAppN C_Dial 0 "standing" (dPopN C_Dial 0 "undone"))
    (sRet (fD (dBin bIx (.e (dBin bIx (.f C_Dial 0 "standing") (.e (dNeg (.e (dC (.int 1))))))) (.e (dC (.int 0))))))))

theorem sp_redoX (C CE : Addr) : ∀ args Q E, (S_redoX C CE).sp args Q E → ir_m_Dial_redo_e C CE (endsX args E) (endsOf args Q) (rho0 N_m_Dial_redo_e args) := by
  rintro args Q E ⟨n, b, d, st, un, rfl, hl, qe, q⟩
  have bigS : sizeLine = 16777216 := sizeLine_eq
  refine ⟨rfl, rfl, rfl, ?_⟩
  rcases List.eq_nil_or_concat un with rfl | ⟨un', p, rfl⟩
  · exact ⟨(Shp.list (n := 1) (by simp)).shp, (Shp.list (n := 0) (by simp)).shp, fun _ => qe rfl, fun h => by
      have h : PyData.eqv (.list []) (.list []) = false := h
      rw [eqv_nilD] at h; cases h⟩
  · rw [List.concat_eq_append] at *
    have q := q p (by simp)
    have e1 : (un' ++ [p]).map prI = un'.map prI ++ [prI p] := by rw [List.map_append]; rfl
    refine ⟨pr_shp _, (Shp.list (n := 0) (by simp)).shp, fun h => ?_, fun _ => ?_⟩
    · have h : PyData.eqv (.list ((un' ++ [p]).map prI)) (.list []) = true := h
      rw [eqv_nilD, e1] at h
      simp at h
    · refine ⟨rfl, rfl, rfl, rfl, prI p, by rw [e1]; simp, rfl, by rw [List.length_map, bigS]; omega, rfl, rfl, rfl, prI p, ?_, .int p.1, rfl, ?_⟩
      · show atI (st.map prI ++ [prI p]) (-1) = some (prI p)
        exact atI_last _ _
      · unfold dl at q
        rw [List.map_append, List.dropLast_concat] at q
        rw [e1, List.dropLast_concat]
        exact q
end DL
namespace DL
open PySem L2 PyProof.Rows
/-! the deck: what a draw promises -/
/-- a deck from which b more draws may be made -/
def Dk (b : Nat) (dk : List PD) : Prop := ∃ (ns : List Int) (a e c : Int), dk = [.list (ns.map .int), .int a, .int e, .int c] ∧ 0 ≤ c ∧ c + b ≤ 2 ^ 40
def S_draw : FSpec := ⟨fun args Q => ∃ (b : Nat) (dk : List PD) (many : Int), args = [.ls (some 0) dk, .d (.int many)] ∧ Dk (b + 1) dk ∧ (0 < many ∧ many.natAbs.log2 < 8000) ∧ ∀ r dk', 0 ≤ r → r < many → Dk b dk' → Q (.d (.int r)) [.ls (some 0) dk']⟩
theorem Dk.mono {b c : Nat} {dk : List PD} (h : Dk b dk) (hc : c ≤ b) : Dk c dk := by
  obtain ⟨ns, a, e, d, rfl, h0, h1⟩ := h
  exact ⟨ns, a, e, d, rfl, h0, by omega⟩
abbrev N_law_draw_a51a : List Str := ["deck", "many", "found", "cell", "mixed"]
def ir_law_draw_a51a : TSt :=
  (sSeq (sSetL 0 (.e (dC (.int 3))) (dBin bAdd (.e (dBin bIx (.s 0) (.e (dC (.int 3))))) (.e (dC (.int 1)))))
    (sSeq (sIf (tVal (dBin cGt (.e (dBin bIx (.s 0) (.e (dC (.int 2))))) (.e (dC (.int 0))))) (sSeq (sAsg 2 (fD (dBin bMod (.e (dBi bInt (aCons (.e (dBin bIx (.s 0) (.e (dC (.int 2))))) aNil))) (.s 1))))
    (sSeq (sSetL 0 (.e (dC (.int 2))) (dBin bFdiv (.e (dBin bIx (.s 0) (.e (dC (.int 2))))) (.s 1)))
    (sRetV 2))) sNext)
    (sSeq (sAsg 3 (fD (dC (.int 47))))
    (sSeq (sIf (tVal (dBin cNe (.e (dBin bIx (.s 0) (.e (dC (.int 0))))) (.e (dFz (fLst aNil))))) (sAsg 3 (fD (dBin bIx (.e (dBin bIx (.s 0) (.e (dC (.int 0))))) (.e (dBin bMod (.e (dBi bInt (aCons (.e (dBin bIx (.s 0) (.e (dC (.int 1))))) aNil))) (.e (dBi bLen (aCons (.e (dBin bIx (.s 0) (.e (dC (.int 0))))) aNil)))))))) sNext)
    (sSeq (sSetL 0 (.e (dC (.int 1))) (dBin bAdd (.e (dBin bIx (.s 0) (.e (dC (.int 1))))) (.e (dC (.int 1)))))
    (sSeq (sIf (tAndD (tVal (dBin cGe (.e (dBi bAbs (aCons (.s 3) aNil))) (.e (dBin bPow (.e (dC (.int 10))) (.e (dC (.int 18))))))) (tVal (dBin cLe (.e (dBin bIx (.s 0) (.e (dC (.int 1))))) (.e (dBi bLen (aCons (.e (dBin bIx (.s 0) (.e (dC (.int 0))))) aNil)))))) (sSeq (sSetL 0 (.e (dC (.int 2))) (dBin bFdiv (.e (dBi bAbs (aCons (.s 3) aNil))) (.s 1)))
    (sRet (fD (dBin bMod (.e (dBi bInt (aCons (.e (dBi bAbs (aCons (.s 3) aNil))) aNil))) (.s 1))))) sNext)
    (sSeq (sAsg 4 (fD (dBin bMod (.e (dBin bPow (.e (dBi bInt (aCons (.e (dBin bAdd (.e (dBin bMod (.e (dBi bInt (aCons (.s 3) aNil))) (.e (dC (.int 2147483587))))) (.e (dBin bMulI (.e (dC (.int 67280423))) (.e (dBin bIx (.s 0) (.e (dC (.int 3))))))))) aNil))) (.e (dC (.int 5))))) (.e (dC (.int 2147483629))))))
    (sSeq (sAsg 4 (fD (dBin bMod (.e (dBin bPow (.e (dBi bInt (aCons (.e (dBin bAdd (.e (dBin bMulI (.s 4) (.e (dBin bAdd (.e (dBin bMulI (.e (dC (.int 2))) (.e (dBin bIx (.s 0) (.e (dC (.int 3))))))) (.e (dC (.int 3))))))) (.e (dC (.int 7919))))) aNil))) (.e (dC (.int 3))))) (.e (dC (.int 2147483563))))))
    (sRet (fD (dBin bMod (.e (dBin bFdiv (.s 4) (.e (dC (.int 32))))) (.s 1))))))))))))
theorem sp_draw : ∀ args Q, S_draw.sp args Q → ir_law_draw_a51a (endsOf args Q) (rho0 N_law_draw_a51a args) := by
  rintro args Q ⟨b, dk, many, rfl, ⟨ns, a, e, c, rfl, h0, h1⟩, ⟨m0, m1⟩, q⟩
  have L : (ns.map PyData.int).length = ns.length := List.length_map _
  have fin : ∀ (dk' : List PD) (r : Int), Dk b dk' → Q (.d (.int (r % many))) [.ls (some 0) dk'] := fun dk' r z => q _ _ (Int.emod_nonneg _ (by omega)) (Int.emod_lt_of_pos _ m0) z
  have dko : ∀ a' e', Dk b [.list (ns.map .int), .int a', .int e', .int (c + 1)] := fun a' e' => ⟨ns, a', e', _, rfl, by omega, by omega⟩
  have nn : ∀ x : Int, (x % 2147483587 + 67280423 * (c + 1)).natAbs < 2 ^ 70 := fun x => by
    have a1 := Int.emod_lt_of_pos x (b := 2147483587) (by decide)
    have a2 := Int.emod_nonneg x (b := 2147483587) (by decide)
    omega
  have nm : ∀ x : Int, (x % 2147483629 * (2 * (c + 1) + 3) + 7919).natAbs < 2 ^ 80 := fun x => by
    have a1 := Int.emod_lt_of_pos x (b := 2147483629) (by decide)
    have a2 := Int.emod_nonneg x (b := 2147483629) (by decide)
    have a3 : x % 2147483629 * (2 * (c + 1) + 3) ≤ 2147483629 * (2 ^ 42) := Int.mul_le_mul (by omega) (by omega) (by omega) (by decide)
    have a4 : 0 ≤ x % 2147483629 * (2 * (c + 1) + 3) := Int.mul_nonneg a2 (by omega)
    omega
  have ab : ∀ x : Int, 0 ≤ (if x < 0 then -x else x) := fun x => by split <;> omega
  have tt : ∀ {x : Int}, x < 2147483629 → 0 ≤ x → x.natAbs < 2 ^ 32 := fun h1 h2 => by omega
  -- deck[3] = deck[3] + 1
  refine ⟨_, rfl, 3, rfl, ?_⟩
  -- deck[2] > 0
  refine ⟨_, rfl, fun g => ?_, fun g => ?_⟩
  · refine ⟨_, rfl, m0, _, rfl, ⟨m0, by omega⟩, 2, rfl, ?_⟩
    exact fin _ _ (dko _ _)
  refine ⟨_, rfl, (Shp.list (n := 0) (Shp.ints ns)).shp, ⟨rfl, rfl⟩, fun g2 => ?_, fun g2 => ?_⟩
  · have hl : 0 < ns.length := by
      cases ns with
      | nil => simp [eqv_nil, Lc.pd] at g2
      | cons x r => simp
    obtain ⟨cell, e1, e2⟩ := atI_some (xs := ns.map PyData.int) (i := a % ((ns.map PyData.int).length : Int)) (Int.emod_nonneg _ (by omega)) (Int.emod_lt_of_pos _ (by omega))
    rw [List.getElem?_map] at e2
    obtain ⟨cell, e3, rfl⟩ := Option.map_eq_some_iff.mp e2
    refine ⟨_, rfl, _, rfl, _, rfl, by rw [L]; omega, _, e1, _, rfl, 1, rfl, ?_⟩
    refine ⟨powOk (k := 4) (m := 18) (by decide) (by decide) (by decide), fun g3 => ⟨_, rfl, _, rfl, fun g4 => ?_, fun g4 => ?_⟩, fun g3 => ⟨nofun, fun g4 => ?_⟩⟩
    · exact ⟨⟨m0, by omega⟩, 2, rfl, m0, fin _ _ (dko _ _)⟩
    all_goals
      refine ⟨by decide, _, rfl, mulOk 30 50 (by decide) (by omega), powOk (k := 70) (m := 5) (nn _) (by decide) (by decide), by decide, _, rfl, mulOk 2 50 (by decide) (by omega), mulOk 32 50 ?_ (by omega), powOk (k := 80) (m := 3) (nm _) (by decide) (by decide), by decide, ⟨by decide, by decide⟩, m0, fin _ _ (dko _ _)⟩
      have a1 := Int.emod_lt_of_pos ((cell % 2147483587 + 67280423 * (c + 1)) ^ 5) (b := 2147483629) (by decide)
      have a2 := Int.emod_nonneg ((cell % 2147483587 + 67280423 * (c + 1)) ^ 5) (b := 2147483629) (by decide)
      exact tt a1 a2
  · refine ⟨_, rfl, 1, rfl, ?_⟩
    refine ⟨powOk (k := 4) (m := 18) (by decide) (by decide) (by decide), fun g3 => ⟨_, rfl, _, rfl, fun g4 => ?_, fun g4 => ?_⟩, fun g3 => ⟨nofun, fun g4 => ?_⟩⟩
    · exact ⟨⟨m0, by omega⟩, 2, rfl, m0, fin _ _ (dko _ _)⟩
    all_goals
      refine ⟨by decide, _, rfl, mulOk 30 50 (by decide) (by omega), powOk (k := 70) (m := 5) (nn _) (by decide) (by decide), by decide, _, rfl, mulOk 2 50 (by decide) (by omega), mulOk 32 50 ?_ (by omega), powOk (k := 80) (m := 3) (nm _) (by decide) (by decide), by decide, ⟨by decide, by decide⟩, m0, fin _ _ (dko _ _)⟩
      have a1 := Int.emod_lt_of_pos ((47 % 2147483587 + 67280423 * (c + 1)) ^ 5) (b := 2147483629) (by decide)
      have a2 := Int.emod_nonneg ((47 % 2147483587 + 67280423 * (c + 1)) ^ 5) (b := 2147483629) (by decide)
      exact tt a1 a2

/-- one of the items -/
def S_one : FSpec := ⟨fun args Q => ∃ (b : Nat) (dk xs : List PD), args = [.ls (some 0) dk, .d (.list xs)] ∧ Dk (b + 1) dk ∧ (0 < xs.length ∧ xs.length < 2 ^ 60) ∧ ∀ x dk', x ∈ xs → Dk b dk' → Q (.d x) [.ls (some 0) dk']⟩
abbrev N_law_one_90da : List Str := ["deck", "items"]
def ir_law_one_90da (S_law_draw_a51a : FSpec) : TSt :=
  (sRet (fD (dBin bIx (.s 1) (.e (dFz (fCall S_law_draw_a51a (aCons (.s 0) (aCons (.e (dBi bLen (aCons (.s 1) aNil))) aNil))))))))
theorem sp_one : ∀ args Q, S_one.sp args Q → ir_law_one_90da S_draw (endsOf args Q) (rho0 N_law_one_90da args) := by
  rintro args Q ⟨b, dk, xs, rfl, h1, ⟨h2, h3⟩, q⟩
  have hl : ((xs.length : Nat) : Int).natAbs.log2 < 8000 := by
    have := (Nat.log2_lt (n := xs.length) (k := 60) (by omega)).mpr h3
    rw [Int.natAbs_natCast]; omega
  refine ⟨rfl, b, dk, (xs.length : Nat), rfl, h1, ⟨by omega, hl⟩, fun r dk' h4 h5 h6 => ?_⟩
  obtain ⟨x, e1, e2⟩ := atI_some (xs := xs) h4 h5
  exact ⟨x, e1, q x dk' (List.mem_of_getElem? e2) h6⟩
def S_deck : FSpec := ⟨fun args Q => ∃ ns : List Int, args = [.sc (ns.map .int)] ∧ ns.length ≤ 63 ∧ ∀ dk, Dk (2 ^ 40) dk → Q (.ls none dk) []⟩
abbrev N_law_deck_91e6 : List Str := ["script"]
def ir_law_deck_91e6 : TSt :=
  (sRet (fLst (aCons (.e (dFz (fList (aCons (.e (dSlS 0 pNone (pSome (.e (dC (.int 63)))))) aNil)))) (aCons (.e (dC (.int 0))) (aCons (.e (dC (.int 0))) (aCons (.e (dC (.int 0))) aNil))))))
theorem cut_ints (ns : List Int) (a b : Option Int) : ∃ ms : List Int, cutD (ns.map PyData.int) a b = ms.map PyData.int := by
  unfold cutD
  rw [← List.map_drop, ← List.map_take]
  exact ⟨_, rfl⟩
theorem sp_deck : ∀ args Q, S_deck.sp args Q → ir_law_deck_91e6 (endsOf args Q) (rho0 N_law_deck_91e6 args) := by
  rintro args Q ⟨ns, rfl, h1, q⟩
  obtain ⟨ms, e⟩ := cut_ints ns none (some 63)
  refine .inl (q _ ⟨ms, 0, 0, 0, ?_, by decide, by decide⟩)
  rw [← e]; rfl
end DL
namespace DL
open PySem L2 PyProof.Rows
/-! formulas -/
inductive FT where
  | int (i : Int)
  | x
  | y
  | add (a b : FT)
  | sub (a b : FT)
  | mul (a b : FT)
  | pow (a : FT) (n : Nat)
def FT.pd : FT → PD
  | int i => .int i
  | x => .str "x"
  | y => .str "y"
  | add a b => .tuple [.str "add", a.pd, b.pd]
  | sub a b => .tuple [.str "sub", a.pd, b.pd]
  | mul a b => .tuple [.str "mul", a.pd, b.pd]
  | pow a n => .tuple [.str "pow", a.pd, .int n]
def FT.val (u v : Int) : FT → Int
  | int i => i
  | x => u
  | y => v
  | add a b => a.val u v + b.val u v
  | sub a b => a.val u v - b.val u v
  | mul a b => a.val u v * b.val u v
  | pow a n => a.val u v ^ n
def FT.lev : FT → Nat
  | add a b | sub a b | mul a b => max a.lev b.lev + 1
  | pow a _ => a.lev + 1
  | _ => 1
/-- a bound of the degree -/
def FT.e : FT → Nat
  | add a b | sub a b => max a.e b.e
  | mul a b => a.e + b.e
  | pow a n => a.e * max 1 n
  | _ => 1
/-- the integers are of less than m bits -/
def FT.le (m : Nat) : FT → Prop
  | int i => i.natAbs < 2 ^ m
  | add a b | sub a b | mul a b => a.le m ∧ b.le m
  | pow a _ => a.le m
  | _ => True
/-- y stands in it -/
def FT.hasY : FT → Bool
  | y => true
  | add a b | sub a b | mul a b => a.hasY || b.hasY
  | pow a _ => a.hasY
  | _ => false
theorem FT.e_pos : ∀ f : FT, 1 ≤ f.e
  | int _ => Nat.le_refl _
  | x => Nat.le_refl _
  | y => Nat.le_refl _
  | add a b => Nat.le_trans a.e_pos (Nat.le_max_left _ _)
  | sub a b => Nat.le_trans a.e_pos (Nat.le_max_left _ _)
  | mul a b => Nat.le_trans a.e_pos (Nat.le_add_right _ _)
  | pow a n => Nat.mul_pos a.e_pos (by omega)
theorem FT.lev_pos : ∀ f : FT, 1 ≤ f.lev
  | int _ => Nat.le_refl _
  | x => Nat.le_refl _
  | y => Nat.le_refl _
  | add a b => Nat.succ_le_succ (Nat.zero_le _)
  | sub a b => Nat.succ_le_succ (Nat.zero_le _)
  | mul a b => Nat.succ_le_succ (Nat.zero_le _)
  | pow a n => Nat.succ_le_succ (Nat.zero_le _)
theorem two_add {i j : Int} {a b c : Nat} (h1 : i.natAbs < 2 ^ a) (h2 : j.natAbs < 2 ^ b) (ha : a + 1 ≤ c) (hb : b + 1 ≤ c) : (i + j).natAbs < 2 ^ c ∧ (i - j).natAbs < 2 ^ c := by
  obtain ⟨d, rfl⟩ : ∃ d, c = d + 1 := ⟨c - 1, by omega⟩
  have x1 : i.natAbs < 2 ^ d := Nat.lt_of_lt_of_le h1 (Nat.pow_le_pow_right (by decide) (by omega))
  have x2 : j.natAbs < 2 ^ d := Nat.lt_of_lt_of_le h2 (Nat.pow_le_pow_right (by decide) (by omega))
  rw [Nat.pow_succ]
  omega
theorem two_mul {i j : Int} {a b c : Nat} (h1 : i.natAbs < 2 ^ a) (h2 : j.natAbs < 2 ^ b) (h : a + b ≤ c) : (i * j).natAbs < 2 ^ c := by
  rw [Int.natAbs_mul]
  refine Nat.lt_of_lt_of_le ?_ (Nat.pow_le_pow_right (by decide) h)
  rw [Nat.pow_add]
  exact Nat.mul_lt_mul'' h1 h2
theorem two_pow {i : Int} {a : Nat} (h1 : i.natAbs < 2 ^ a) : ∀ {n c : Nat}, a * max 1 n ≤ c → 0 < c → (i ^ n).natAbs < 2 ^ c
  | 0, c, _, h => by
    rw [Int.pow_zero]
    exact Nat.one_lt_two_pow (by omega)
  | 1, c, h, _ => by
    rw [Int.pow_succ, Int.pow_zero, Int.one_mul]
    exact Nat.lt_of_lt_of_le h1 (Nat.pow_le_pow_right (by decide) (by simpa using h))
  | n + 2, c, h, hc => by
    by_cases ha : a = 0
    · subst ha
      have : i = 0 := by
        have : i.natAbs < 1 := by simpa using h1
        omega
      subst this
      rw [Int.zero_pow (by omega)]
      exact Nat.pos_of_ne_zero (by simp)
    · have z : a * max 1 (n + 2) = a * (n + 1) + a := by
        rw [Nat.max_eq_right (by omega), Nat.mul_add, Nat.mul_add]; omega
      rw [z] at h
      rw [Int.pow_succ]
      refine two_mul (two_pow h1 (n := n + 1) (c := a * (n + 1)) (by rw [Nat.max_eq_right (by omega)]; exact Nat.le_refl _) (Nat.mul_pos (by omega) (by omega))) h1 h
/-- how great a formula's worth is -/
theorem FT.small {m : Nat} {u v : Int} (hu : u.natAbs < 2 ^ m) (hv : v.natAbs < 2 ^ m) : ∀ {f : FT}, f.le m → (f.val u v).natAbs < 2 ^ ((f.lev + m) * f.e)
  | int i, h => Nat.lt_of_lt_of_le h (Nat.pow_le_pow_right (by decide) (by simp only [lev, e]; omega))
  | x, _ => Nat.lt_of_lt_of_le hu (Nat.pow_le_pow_right (by decide) (by simp only [lev, e]; omega))
  | y, _ => Nat.lt_of_lt_of_le hv (Nat.pow_le_pow_right (by decide) (by simp only [lev, e]; omega))
  | add a b, h => by
    refine (two_add (small hu hv h.1) (small hu hv h.2) ?_ ?_).1
    · exact sumLe (Nat.le_max_left _ _) (Nat.le_max_left _ _) a.e_pos
    · exact sumLe (Nat.le_max_right _ _) (Nat.le_max_right _ _) b.e_pos
  | sub a b, h => by
    refine (two_add (small hu hv h.1) (small hu hv h.2) ?_ ?_).2
    · exact sumLe (Nat.le_max_left _ _) (Nat.le_max_left _ _) a.e_pos
    · exact sumLe (Nat.le_max_right _ _) (Nat.le_max_right _ _) b.e_pos
  | mul a b, h => by
    refine two_mul (small hu hv h.1) (small hu hv h.2) ?_
    have h1 := Nat.mul_le_mul_right a.e (show a.lev + m ≤ max a.lev b.lev + 1 + m by omega)
    have h2 := Nat.mul_le_mul_right b.e (show b.lev + m ≤ max a.lev b.lev + 1 + m by omega)
    simp only [lev, e, Nat.mul_add]
    omega
  | pow a n, h => by
    refine two_pow (small hu hv (f := a) h) ?_ (Nat.mul_pos (by simp only [lev]; omega) (pow a n).e_pos)
    simp only [lev, e]
    rw [← Nat.mul_assoc]
    exact Nat.mul_le_mul_right _ (Nat.mul_le_mul_right _ (by omega))
where
  sumLe {l l' p p' : Nat} (h1 : l ≤ l') (h2 : p ≤ p') (h3 : 1 ≤ p) : (l + m) * p + 1 ≤ (l' + 1 + m) * p' := by
    have a1 : (l + m) * p ≤ (l' + m) * p' := Nat.mul_le_mul (by omega) h2
    have a2 : (l' + 1 + m) * p' = (l' + m) * p' + p' := by rw [show l' + 1 + m = (l' + m) + 1 by omega, Nat.add_mul, Nat.one_mul]
    omega
/-- the worth is of less than 100000 bits -/
def FT.ok (m : Nat) (f : FT) : Prop := f.le m ∧ (f.lev + m) * f.e ≤ 100000
theorem FT.ok.sub1 {m : Nat} {a b : FT} (h : ((a.add b).ok m ∨ (a.sub b).ok m) ∨ (a.mul b).ok m) : a.ok m ∧ b.ok m := by
  have key : a.le m ∧ b.le m ∧ ∃ E, a.e ≤ E ∧ b.e ≤ E ∧ (max a.lev b.lev + 1 + m) * E ≤ 100000 := by
    rcases h with (⟨h1, h2⟩ | ⟨h1, h2⟩) | ⟨h1, h2⟩
    · exact ⟨h1.1, h1.2, max a.e b.e, Nat.le_max_left _ _, Nat.le_max_right _ _, h2⟩
    · exact ⟨h1.1, h1.2, max a.e b.e, Nat.le_max_left _ _, Nat.le_max_right _ _, h2⟩
    · exact ⟨h1.1, h1.2, a.e + b.e, Nat.le_add_right _ _, Nat.le_add_left _ _, h2⟩
  obtain ⟨l1, l2, E, e1, e2, h⟩ := key
  exact ⟨⟨l1, Nat.le_trans (Nat.mul_le_mul (by omega) e1) h⟩, ⟨l2, Nat.le_trans (Nat.mul_le_mul (by omega) e2) h⟩⟩
theorem FT.ok.subp {m n : Nat} {a : FT} (h : (a.pow n).ok m) : a.ok m ∧ (a.lev + m) * a.e * max 1 n ≤ 100000 := by
  obtain ⟨h1, h2⟩ := h
  simp only [lev, e] at h2
  rw [← Nat.mul_assoc] at h2
  have z : (a.lev + m) * a.e * max 1 n ≤ 100000 := Nat.le_trans (Nat.mul_le_mul_right _ (Nat.mul_le_mul_right _ (by omega))) h2
  exact ⟨⟨h1, Nat.le_trans (Nat.le_mul_of_pos_right _ (by omega)) z⟩, z⟩
theorem rngD_get {lo : Int} {n i : Nat} {x : PD} (h : (rngD lo n)[i]? = some x) : x = .int (lo + (i : Nat)) ∧ i < n := by
  unfold rngD at h
  rw [List.getElem?_map] at h
  obtain ⟨j, h1, rfl⟩ := Option.map_eq_some_iff.mp h
  have hi : i < n := by have := (List.getElem?_eq_some_iff.mp h1).1; simpa using this
  rw [List.getElem?_range hi] at h1
  cases h1
  exact ⟨rfl, hi⟩
theorem rngD_len {lo : Int} {n : Nat} : (rngD lo n).length = n := by unfold rngD; simp
/-! powered -/
def S_powered : FSpec := ⟨fun args Q => ∃ (b : Int) (n k : Nat), args = [.d (.int b), .d (.int n)] ∧ b.natAbs < 2 ^ k ∧ 0 < k ∧ k * max 1 n ≤ 100000 ∧ Q (.d (.int (b ^ n))) []⟩
abbrev N_powered : List Str := ["number", "times", "found", "turn"]
def ir_powered : TSt :=
  (sSeq (sAsg 2 (fD (dC (.int 1))))
    (sSeq (sFor (iRg (aCons (.s 1) aNil)) (.nm 3) (sAsg 2 (fD (dBin bMulI (.s 2) (.s 0)))))
    (sRetV 2)))
theorem pow_le {k n i : Nat} (h : k * max 1 n ≤ 100000) (hk : 0 < k) (hi : i ≤ n) : k * max 1 i ≤ 100000 := Nat.le_trans (Nat.mul_le_mul_left _ (by omega)) h
theorem sp_powered : ∀ args Q, S_powered.sp args Q → ir_powered (endsOf args Q) (rho0 N_powered args) := by
  rintro args Q ⟨b, n, k, rfl, h1, h2, h3, q⟩
  have hn : n ≤ 100000 := by
    have : max 1 n ≤ k * max 1 n := Nat.le_mul_of_pos_left _ h2
    omega
  refine ⟨by omega, _, rfl, fun i ρ => ∃ t, ρ = [some (.d (.int b)), some (.d (.int n)), some (.d (.int (b ^ i))), t], ⟨none, by rw [Int.pow_zero]⟩, ?_, ?_⟩
  · rintro i x ρ hx ⟨t, rfl⟩
    obtain ⟨rfl, hi⟩ := rngD_get hx
    refine ⟨mulOk (k * max 1 i) k (two_pow h1 (Nat.le_refl _) (Nat.mul_pos h2 (by omega))) h1 ?_ (Nat.mul_pos h2 (by omega)) h2, ?_⟩
    · have := pow_le h3 h2 (show i ≤ n by omega)
      have : k ≤ k * max 1 n := Nat.le_mul_of_pos_right _ (by omega)
      omega
    · exact ⟨_, by rw [Int.pow_succ]; rfl⟩
  · rintro ρ ⟨t, rfl⟩
    rw [rngD_len]
    exact q
end DL
namespace DL
open PySem L2 PyProof.Rows
/-! what formulas come to: the program's reckoning and the law's -/
def S_worth (d : Nat) : FSpec := ⟨fun args Q => ∃ (f : FT) (u v : Int) (m : Nat), args = [.d f.pd, .d (.int u), .d (.int v)] ∧ f.lev ≤ d ∧ f.ok m ∧ u.natAbs < 2 ^ m ∧ v.natAbs < 2 ^ m ∧ Q (.d (.int (f.val u v))) []⟩
theorem S_worth0 : ∀ args Q, ¬ (S_worth 0).sp args Q := by
  rintro args Q ⟨f, u, v, m, _, h, _⟩
  have := f.lev_pos
  omega
theorem addOk {m : Nat} {f : FT} (h : f.ok m) : (f.lev + m) * f.e ≤ 100000 ∧ 0 < (f.lev + m) * f.e := ⟨h.2, Nat.mul_pos (by have := f.lev_pos; omega) f.e_pos⟩
abbrev N_worth : List Str := ["formula", "x", "y", "one", "other"]
def ir_worth (S_worth : FSpec) (S_powered : FSpec) : TSt :=
  (sSeq (sIf (tNotD (tVal (dIsi "tuple" (.s 0)))) (sRet (fD (dGetF (fDict [.inr "x", .inr "y"] [(dVar 1), (dVar 2)]) (.s 0) (.s 0)))) sNext)
    (sSeq (sAsg 3 (fCall S_worth (aCons (.e (dBin bIx (.s 0) (.e (dC (.int 1))))) (aCons (.e (dVar 1)) (aCons (.e (dVar 2)) aNil)))))
    (sSeq (sIf (tVal (dBin cEq (.e (dBin bIx (.s 0) (.e (dC (.int 0))))) (.e (dC (.str "pow"))))) (sRet (fCall S_powered (aCons (.e (dVar 3)) (aCons (.e (dBin bIx (.s 0) (.e (dC (.int 2))))) aNil)))) sNext)
    (sSeq (sAsg 4 (fCall S_worth (aCons (.e (dBin bIx (.s 0) (.e (dC (.int 2))))) (aCons (.e (dVar 1)) (aCons (.e (dVar 2)) aNil)))))
    (sSeq (sIf (tVal (dBin cEq (.e (dBin bIx (.s 0) (.e (dC (.int 0))))) (.e (dC (.str "mul"))))) (sRet (fD (dBin bMulI (.s 3) (.s 4)))) sNext)
    (sRet (fD (dIte (tVal (dBin cEq (.e (dBin bIx (.s 0) (.e (dC (.int 0))))) (.e (dC (.str "add"))))) (dBin bAdd (.s 3) (.s 4)) (dBin bSub (.s 3) (.s 4))))))))))
theorem sp_worth (d : Nat) : ∀ args Q, (S_worth (d + 1)).sp args Q → ir_worth (S_worth d) S_powered (endsOf args Q) (rho0 N_worth args) := by
  rintro args Q ⟨f, u, v, m, rfl, hl, ok, hu, hv, q⟩
  cases f with
  | int i => exact ⟨rfl, fun _ => ⟨_, rfl, q⟩, nofun⟩
  | x => exact ⟨rfl, fun _ => ⟨_, rfl, q⟩, nofun⟩
  | y => exact ⟨rfl, fun _ => ⟨_, rfl, q⟩, nofun⟩
  | pow a n =>
    have hl' : a.lev ≤ d := by simp only [FT.lev] at hl; omega
    obtain ⟨oa, hb⟩ := ok.subp
    have z := addOk oa
    refine ⟨rfl, nofun, fun _ => ⟨_, rfl, rfl, a, u, v, m, rfl, hl', oa, hu, hv, _, rfl, fun _ => ?_, nofun⟩⟩
    exact ⟨_, rfl, rfl, a.val u v, n, _, rfl, FT.small hu hv oa.1, z.2, hb, q⟩
  | mul a b =>
    have hl' : a.lev ≤ d ∧ b.lev ≤ d := by simp only [FT.lev] at hl; omega
    obtain ⟨oa, ob⟩ := FT.ok.sub1 (.inr ok)
    refine ⟨rfl, nofun, fun _ => ⟨_, rfl, rfl, a, u, v, m, rfl, hl'.1, oa, hu, hv, _, rfl, nofun, fun _ => ⟨_, rfl, rfl, b, u, v, m, rfl, hl'.2, ob, hu, hv, _, rfl, fun _ => ?_, nofun⟩⟩⟩
    exact ⟨mulOk _ _ (FT.small hu hv oa.1) (FT.small hu hv ob.1) (by have := oa.2; have := ob.2; omega) (addOk oa).2 (addOk ob).2, q⟩
  | add a b =>
    have hl' : a.lev ≤ d ∧ b.lev ≤ d := by simp only [FT.lev] at hl; omega
    obtain ⟨oa, ob⟩ := FT.ok.sub1 (.inl (.inl ok))
    refine ⟨rfl, nofun, fun _ => ⟨_, rfl, rfl, a, u, v, m, rfl, hl'.1, oa, hu, hv, _, rfl, nofun, fun _ => ⟨_, rfl, rfl, b, u, v, m, rfl, hl'.2, ob, hu, hv, _, rfl, nofun, fun _ => ⟨_, rfl, fun _ => q, nofun⟩⟩⟩⟩
  | sub a b =>
    have hl' : a.lev ≤ d ∧ b.lev ≤ d := by simp only [FT.lev] at hl; omega
    obtain ⟨oa, ob⟩ := FT.ok.sub1 (.inl (.inr ok))
    refine ⟨rfl, nofun, fun _ => ⟨_, rfl, rfl, a, u, v, m, rfl, hl'.1, oa, hu, hv, _, rfl, nofun, fun _ => ⟨_, rfl, rfl, b, u, v, m, rfl, hl'.2, ob, hu, hv, _, rfl, nofun, fun _ => ⟨_, rfl, nofun, fun _ => q⟩⟩⟩⟩
abbrev N_law_worth_98b9 : List Str := ["formula", "x", "y", "one", "found", "k", "other"]
def ir_law_worth_98b9 (S_law_worth_98b9 : FSpec) : TSt :=
  (sSeq (sIf (tVal (dIsi "str" (.s 0))) (sRet (fD (dIte (tVal (dBin cEq (.s 0) (.e (dC (.str "x"))))) (dVar 1) (dVar 2)))) sNext)
    (sSeq (sIf (tVal (dIsi "int" (.s 0))) (sRetV 0) sNext)
    (sSeq (sPar 3 4 (fCall S_law_worth_98b9 (aCons (.e (dBin bIx (.s 0) (.e (dC (.int 1))))) (aCons (.e (dVar 1)) (aCons (.e (dVar 2)) aNil)))) (fD (dC (.int 1))))
    (sSeq (sIf (tVal (dBin cEq (.e (dBin bIx (.s 0) (.e (dC (.int 0))))) (.e (dC (.str "pow"))))) (sSeq (sFor (iRg (aCons (.e (dBin bIx (.s 0) (.e (dC (.int 2))))) aNil)) (.nm 5) (sAsg 4 (fD (dBin bMulI (.s 4) (.s 3)))))
    (sRetV 4)) sNext)
    (sSeq (sAsg 6 (fCall S_law_worth_98b9 (aCons (.e (dBin bIx (.s 0) (.e (dC (.int 2))))) (aCons (.e (dVar 1)) (aCons (.e (dVar 2)) aNil)))))
    (sSeq (sIf (tVal (dBin cEq (.e (dBin bIx (.s 0) (.e (dC (.int 0))))) (.e (dC (.str "mul"))))) (sRet (fD (dBin bMulI (.s 3) (.s 6)))) sNext)
    (sRet (fD (dIte (tVal (dBin cEq (.e (dBin bIx (.s 0) (.e (dC (.int 0))))) (.e (dC (.str "add"))))) (dBin bAdd (.s 3) (.s 6)) (dBin bSub (.s 3) (.s 6)))))))))))
theorem sp_law_worth (d : Nat) : ∀ args Q, (S_worth (d + 1)).sp args Q → ir_law_worth_98b9 (S_worth d) (endsOf args Q) (rho0 N_law_worth_98b9 args) := by
  rintro args Q ⟨f, u, v, m, rfl, hl, ok, hu, hv, q⟩
  cases f with
  | int i => exact ⟨rfl, nofun, fun _ => ⟨rfl, fun _ => q, nofun⟩⟩
  | x => exact ⟨rfl, fun _ => ⟨fun _ => q, nofun⟩, nofun⟩
  | y => exact ⟨rfl, fun _ => ⟨nofun, fun _ => q⟩, nofun⟩
  | pow a n =>
    have hl' : a.lev ≤ d := by simp only [FT.lev] at hl; omega
    obtain ⟨oa, hb⟩ := ok.subp
    have z := addOk oa
    have sm := FT.small hu hv oa.1
    have hn : n ≤ 100000 := by
      have : max 1 n ≤ (a.lev + m) * a.e * max 1 n := Nat.le_mul_of_pos_left _ z.2
      omega
    refine ⟨rfl, nofun, fun _ => ⟨rfl, nofun, fun _ => ⟨_, rfl, rfl, a, u, v, m, rfl, hl', oa, hu, hv, _, rfl, fun _ => ?_, nofun⟩⟩⟩
    refine ⟨_, rfl, by omega, _, rfl, fun i ρ => ∃ t, ρ = [some (.d (FT.pow a n).pd), some (.d (.int u)), some (.d (.int v)), some (.d (.int (a.val u v))), some (.d (.int (a.val u v ^ i))), t, none], ⟨none, by rw [Int.pow_zero]⟩, ?_, ?_⟩
    · rintro i x ρ hx ⟨t, rfl⟩
      obtain ⟨rfl, hi⟩ := rngD_get hx
      refine ⟨mulOk ((a.lev + m) * a.e * max 1 i) _ (two_pow sm (Nat.le_refl _) (Nat.mul_pos z.2 (by omega))) sm ?_ (Nat.mul_pos z.2 (by omega)) z.2, ?_⟩
      · have := pow_le hb z.2 (show i ≤ n by have : i < ((n : Nat) : Int).toNat := hi; omega)
        omega
      · exact ⟨_, by rw [Int.pow_succ]; rfl⟩
    · rintro ρ ⟨t, rfl⟩
      rw [rngD_len]
      exact q
  | mul a b =>
    have hl' : a.lev ≤ d ∧ b.lev ≤ d := by simp only [FT.lev] at hl; omega
    obtain ⟨oa, ob⟩ := FT.ok.sub1 (.inr ok)
    refine ⟨rfl, nofun, fun _ => ⟨rfl, nofun, fun _ => ⟨_, rfl, rfl, a, u, v, m, rfl, hl'.1, oa, hu, hv, _, rfl, nofun, fun _ => ⟨_, rfl, rfl, b, u, v, m, rfl, hl'.2, ob, hu, hv, _, rfl, fun _ => ?_, nofun⟩⟩⟩⟩
    exact ⟨mulOk _ _ (FT.small hu hv oa.1) (FT.small hu hv ob.1) (by have := oa.2; have := ob.2; omega) (addOk oa).2 (addOk ob).2, q⟩
  | add a b =>
    have hl' : a.lev ≤ d ∧ b.lev ≤ d := by simp only [FT.lev] at hl; omega
    obtain ⟨oa, ob⟩ := FT.ok.sub1 (.inl (.inl ok))
    refine ⟨rfl, nofun, fun _ => ⟨rfl, nofun, fun _ => ⟨_, rfl, rfl, a, u, v, m, rfl, hl'.1, oa, hu, hv, _, rfl, nofun, fun _ => ⟨_, rfl, rfl, b, u, v, m, rfl, hl'.2, ob, hu, hv, _, rfl, nofun, fun _ => ⟨_, rfl, fun _ => q, nofun⟩⟩⟩⟩⟩
  | sub a b =>
    have hl' : a.lev ≤ d ∧ b.lev ≤ d := by simp only [FT.lev] at hl; omega
    obtain ⟨oa, ob⟩ := FT.ok.sub1 (.inl (.inr ok))
    refine ⟨rfl, nofun, fun _ => ⟨rfl, nofun, fun _ => ⟨_, rfl, rfl, a, u, v, m, rfl, hl'.1, oa, hu, hv, _, rfl, nofun, fun _ => ⟨_, rfl, rfl, b, u, v, m, rfl, hl'.2, ob, hu, hv, _, rfl, nofun, fun _ => ⟨_, rfl, nofun, fun _ => q⟩⟩⟩⟩⟩
/-- the rest by a clock -/
def S_hour (d : Nat) : FSpec := ⟨fun args Q => ∃ (f : FT) (c u v : Int) (m : Nat), args = [.d f.pd, .d (.int c), .d (.int u), .d (.int v)] ∧ f.lev ≤ d ∧ f.ok m ∧ u.natAbs < 2 ^ m ∧ v.natAbs < 2 ^ m ∧ 0 < c ∧ Q (.d (.int (f.val u v % c))) []⟩
abbrev N_hour : List Str := ["formula", "clock", "x", "y"]
def ir_hour (S_worth : FSpec) : TSt :=
  (sRet (fD (dBin bMod (.e (dFz (fCall S_worth (aCons (.e (dVar 0)) (aCons (.e (dVar 2)) (aCons (.e (dVar 3)) aNil)))))) (.s 1))))
theorem sp_hour (d : Nat) : ∀ args Q, (S_hour d).sp args Q → ir_hour (S_worth d) (endsOf args Q) (rho0 N_hour args) := by
  rintro args Q ⟨f, c, u, v, m, rfl, hl, ok, hu, hv, hc, q⟩
  exact ⟨rfl, f, u, v, m, rfl, hl, ok, hu, hv, hc, q⟩
end DL
namespace DL
open PySem L2 PyProof.Rows
/-! formulas drawn -/
/-- the letters that may be drawn: y where yy says so -/
def Lets (yy : Bool) (ls : List PD) : Prop := 0 < ls.length ∧ ls.length < 100 ∧ ∀ l ∈ ls, l = FT.x.pd ∨ (yy = true ∧ l = FT.y.pd)
def FT.leaf (yy : Bool) (m : Nat) (f : FT) : Prop := f.lev = 1 ∧ f.e = 1 ∧ f.le m ∧ (f.hasY = true → yy = true)
theorem lets_leaf {yy : Bool} {ls : List PD} {l : PD} (h : Lets yy ls) (hl : l ∈ ls) : ∃ f : FT, l = f.pd ∧ f.leaf yy 140 := by
  rcases h.2.2 l hl with rfl | ⟨hy, rfl⟩
  · exact ⟨.x, rfl, rfl, rfl, trivial, nofun⟩
  · exact ⟨.y, rfl, rfl, rfl, trivial, fun _ => hy⟩
def S_leaf : FSpec := ⟨fun args Q => ∃ (b : Nat) (dk ls : List PD) (yy : Bool), args = [.ls (some 0) dk, .d (.list ls)] ∧ Dk (b + 8) dk ∧ Lets yy ls ∧ ∀ (f : FT) dk', f.leaf yy 140 → Dk b dk' → Q (.d f.pd) [.ls (some 0) dk']⟩
abbrev N_law_leaf_a91b : List Str := ["deck", "letters", "far", "wide", "some"]
def ir_law_leaf_a91b (S_law_draw_a51a : FSpec) (S_law_one_90da : FSpec) : TSt :=
  (sSeq (sAsg 2 (fD (dBin bAdd (.e (dBin bMulI (.e (dFz (fCall S_law_draw_a51a (aCons (.s 0) (aCons (.e (dBin bPow (.e (dC (.int 10))) (.e (dC (.int 19))))) aNil))))) (.e (dBin bPow (.e (dC (.int 10))) (.e (dC (.int 20))))))) (.e (dFz (fCall S_law_draw_a51a (aCons (.s 0) (aCons (.e (dBin bPow (.e (dC (.int 10))) (.e (dC (.int 19))))) aNil))))))))
    (sSeq (sAsg 3 (fCall S_law_one_90da (aCons (.s 0) (aCons (.e (dFz (fLst (aCons (.e (dVar 2)) (aCons (.e (dNeg (.s 2))) (aCons (.e (dBin bSub (.e (dBin bPow (.e (dC (.int 10))) (.e (dC (.int 40))))) (.e (dC (.int 1))))) (aCons (.e (dBin bSub (.e (dC (.int 1))) (.e (dBin bPow (.e (dC (.int 10))) (.e (dC (.int 40))))))) aNil))))))) aNil))))
    (sSeq (sAsg 4 (fLst (aCons (.e (dC (.int 0))) (aCons (.e (dC (.int 1))) (aCons (.e (dNeg (.e (dC (.int 1))))) (aCons (.e (dC (.int 2))) (aCons (.e (dC (.int 3))) (aCons (.e (dNeg (.e (dC (.int 5))))) (aCons (.e (dC (.int 6))) (aCons (.e (dC (.int 12))) (aCons (.e (dBin bSub (.e (dFz (fCall S_law_draw_a51a (aCons (.s 0) (aCons (.e (dC (.int 199))) aNil))))) (.e (dC (.int 99))))) (aCons (.e (dVar 3)) aNil))))))))))))
    (sRet (fCall S_law_one_90da (aCons (.s 0) (aCons (.e (dFz (fLst (aCons (.e (dFz (fCall S_law_one_90da (aCons (.s 0) (aCons (.e (dVar 4)) aNil))))) (aCons (.e (dFz (fCall S_law_one_90da (aCons (.s 0) (aCons (.e (dVar 1)) aNil))))) (aCons (.e (dFz (fCall S_law_one_90da (aCons (.s 0) (aCons (.e (dVar 1)) aNil))))) aNil)))))) aNil)))))))
def SmI (x : PD) : Prop := ∃ i : Int, x = .int i ∧ i.natAbs < 2 ^ 140
theorem smI {i : Int} (h : i.natAbs < 2 ^ 140) : SmI (.int i) := ⟨i, rfl, h⟩
theorem sp_leaf : ∀ args Q, S_leaf.sp args Q → ir_law_leaf_a91b S_draw S_one (endsOf args Q) (rho0 N_law_leaf_a91b args) := by
  rintro args Q ⟨b, dk, ls, yy, rfl, h, hl, q⟩
  have g : (10 : Int) ^ (19 : Int).toNat = 10 ^ 19 := rfl
  refine ⟨powOk (k := 4) (m := 19) (by decide) (by decide) (by decide), rfl, b + 7, dk, _, rfl, h, ⟨by decide, by decide⟩, fun r1 dk1 a0 a1 d1 => ?_⟩
  rw [g] at a1
  refine ⟨powOk (k := 4) (m := 20) (by decide) (by decide) (by decide), mulOk 64 68 (by omega) (by decide), powOk (k := 4) (m := 19) (by decide) (by decide) (by decide), rfl, b + 6, dk1, _, rfl, d1, ⟨by decide, by decide⟩, fun r2 dk2 b0 b1 d2 => ?_⟩
  rw [g] at b1
  have far : (r1 * 10 ^ (20 : Int).toNat + r2).natAbs < 2 ^ 140 := by
    have e : (10 : Int) ^ (20 : Int).toNat = 100000000000000000000 := rfl
    rw [e]
    omega
  obtain ⟨w, hw⟩ : ∃ w, w = r1 * 10 ^ (20 : Int).toNat + r2 := ⟨_, rfl⟩
  rw [← hw] at far
  refine ⟨powOk (k := 4) (m := 40) (by decide) (by decide) (by decide), powOk (k := 4) (m := 40) (by decide) (by decide) (by decide), rfl, b + 5, dk2, _, rfl, d2, ⟨Nat.succ_pos _, by show 4 < 2 ^ 60; decide⟩, fun v dk3 hv d3 => ?_⟩
  rw [← hw] at hv
  have vs : SmI v := by
    have all : ∀ x ∈ [PyData.int w, .int (-w), .int (10 ^ (40 : Int).toNat - 1), .int (1 - 10 ^ (40 : Int).toNat)], SmI x := by
      simp only [List.forall_mem_cons]
      exact ⟨smI far, smI (by omega), smI (by decide), smI (by decide), fun x hx => by cases hx⟩
    exact all v hv
  obtain ⟨vi, rfl, hvi⟩ := vs
  refine ⟨rfl, b + 4, dk3, _, rfl, d3, ⟨by decide, by decide⟩, fun r3 dk4 c0 c1 d4 => ?_⟩
  refine ⟨rfl, b + 3, dk4, _, rfl, d4, ⟨Nat.succ_pos _, by show 10 < 2 ^ 60; decide⟩, fun s dk5 hs d5 => ?_⟩
  have ss : SmI s := by
    have all : ∀ x ∈ [PyData.int 0, .int 1, .int (-1), .int 2, .int 3, .int (-5), .int 6, .int 12, .int (r3 - 99), .int vi], SmI x := by
      simp only [List.forall_mem_cons]
      exact ⟨smI (by decide), smI (by decide), smI (by decide), smI (by decide), smI (by decide), smI (by decide), smI (by decide), smI (by decide), smI (by omega), smI hvi, fun x hx => by cases hx⟩
    exact all s hs
  obtain ⟨si, rfl, hsi⟩ := ss
  refine ⟨rfl, b + 2, dk5, ls, rfl, d5, ⟨hl.1, by have := hl.2.1; omega⟩, fun l1 dk6 hl1 d6 => ?_⟩
  refine ⟨rfl, b + 1, dk6, ls, rfl, d6, ⟨hl.1, by have := hl.2.1; omega⟩, fun l2 dk7 hl2 d7 => ?_⟩
  refine ⟨rfl, b, dk7, _, rfl, d7, ⟨by show 0 < 3; decide, by show 3 < 2 ^ 60; decide⟩, fun z dk8 hz d8 => ?_⟩
  have fin : ∃ f : FT, z = f.pd ∧ f.leaf yy 140 := by
    have all : ∀ x ∈ [PyData.int si, l1, l2], ∃ f : FT, x = f.pd ∧ f.leaf yy 140 := by
      simp only [List.forall_mem_cons]
      exact ⟨⟨.int si, rfl, rfl, rfl, hsi, nofun⟩, lets_leaf hl hl1, lets_leaf hl hl2, fun x hx => by cases hx⟩
    exact all z hz
  obtain ⟨f, rfl, hf⟩ := fin
  exact q f dk8 hf d8
/-- how often is drawn at most -/
def cst : Nat → Nat
  | 0 => 8
  | d + 1 => 2 * cst d + 3
theorem cst_ge : ∀ d, 8 ≤ cst d
  | 0 => Nat.le_refl _
  | d + 1 => by have := cst_ge d; show 8 ≤ 2 * cst d + 3; omega
def FT.drawn (yy : Bool) (m room deep : Nat) (f : FT) : Prop := f.lev ≤ deep ∧ f.e ≤ room ∧ f.le m ∧ (f.hasY = true → yy = true)
def S_formula (d : Nat) : FSpec := ⟨fun args Q => ∃ (b : Nat) (dk ls : List PD) (yy : Bool) (room deep : Nat), args = [.ls (some 0) dk, .d (.list ls), .d (.int room), .d (.int deep)] ∧ Dk (b + cst d) dk ∧ Lets yy ls ∧ 1 ≤ room ∧ room ≤ 1000 ∧ 1 ≤ deep ∧ deep ≤ d ∧
  ∀ (f : FT) dk', f.drawn yy 140 room deep → Dk b dk' → Q (.d f.pd) [.ls (some 0) dk']⟩
theorem S_formula0 : ∀ args Q, ¬ (S_formula 0).sp args Q := by
  rintro args Q ⟨b, dk, ls, yy, room, deep, _, _, _, _, _, h, h2, _⟩
  omega
abbrev N_law_formula_6b2b : List Str := ["deck", "letters", "room", "deep", "way", "word", "one", "power", "part"]
def ir_law_formula_6b2b (S_law_draw_a51a : FSpec) (S_law_leaf_a91b : FSpec) (S_law_formula_6b2b : FSpec) : TSt :=
  (sSeq (sAsg 4 (fCall S_law_draw_a51a (aCons (.s 0) (aCons (.e (dC (.int 9))) aNil))))
    (sSeq (sIf (tOrD (tVal (dBin cLt (.s 3) (.e (dC (.int 2))))) (tOrD (tVal (dBin cLt (.s 4) (.e (dC (.int 2))))) (tAndD (tVal (dBin cLt (.s 2) (.e (dC (.int 2))))) (tVal (dBin (cIn false) (.s 4) (.e (dFz (fLst (aCons (.e (dC (.int 5))) (aCons (.e (dC (.int 6))) (aCons (.e (dC (.int 7))) aNil))))))))))) (sRet (fCall S_law_leaf_a91b (aCons (.s 0) (aCons (.e (dVar 1)) aNil)))) sNext)
    (sSeq (sIf (tVal (dBin cLt (.s 4) (.e (dC (.int 5))))) (sSeq (sAsg 5 (fD (dBin bIx (.e (dFz (fLst (aCons (.e (dC (.str "add"))) (aCons (.e (dC (.str "sub"))) (aCons (.e (dC (.str "add"))) aNil)))))) (.e (dBin bSub (.s 4) (.e (dC (.int 2))))))))
    (sSeq (sAsg 6 (fCall S_law_formula_6b2b (aCons (.s 0) (aCons (.e (dVar 1)) (aCons (.e (dVar 2)) (aCons (.e (dBin bSub (.s 3) (.e (dC (.int 1))))) aNil))))))
    (sRet (fD (dTup (aCons (.e (dVar 5)) (aCons (.e (dVar 6)) (aCons (.e (dFz (fCall S_law_formula_6b2b (aCons (.s 0) (aCons (.e (dVar 1)) (aCons (.e (dVar 2)) (aCons (.e (dBin bSub (.s 3) (.e (dC (.int 1))))) aNil))))))) aNil)))))))) sNext)
    (sSeq (sIf (tVal (dBin cEq (.s 4) (.e (dC (.int 8))))) (sSeq (sAsg 7 (fCall S_law_draw_a51a (aCons (.s 0) (aCons (.e (dBin bAdd (.s 2) (.e (dC (.int 1))))) aNil))))
    (sRet (fD (dTup (aCons (.e (dC (.str "pow"))) (aCons (.e (dFz (fCall S_law_formula_6b2b (aCons (.s 0) (aCons (.e (dVar 1)) (aCons (.e (dBin bFdiv (.s 2) (.e (dBi bMax2 (aCons (.e (dC (.int 1))) (aCons (.s 7) aNil)))))) (aCons (.e (dBin bSub (.s 3) (.e (dC (.int 1))))) aNil))))))) (aCons (.e (dVar 7)) aNil))))))) sNext)
    (sSeq (sAsg 8 (fD (dBin bAdd (.e (dC (.int 1))) (.e (dFz (fCall S_law_draw_a51a (aCons (.s 0) (aCons (.e (dBin bSub (.s 2) (.e (dC (.int 1))))) aNil))))))))
    (sSeq (sAsg 6 (fCall S_law_formula_6b2b (aCons (.s 0) (aCons (.e (dVar 1)) (aCons (.e (dVar 8)) (aCons (.e (dBin bSub (.s 3) (.e (dC (.int 1))))) aNil))))))
    (sRet (fD (dTup (aCons (.e (dC (.str "mul"))) (aCons (.e (dVar 6)) (aCons (.e (dFz (fCall S_law_formula_6b2b (aCons (.s 0) (aCons (.e (dVar 1)) (aCons (.e (dBin bSub (.s 2) (.s 8))) (aCons (.e (dBin bSub (.s 3) (.e (dC (.int 1))))) aNil))))))) aNil))))))))))))
theorem sp_formula (d : Nat) : ∀ args Q, (S_formula (d + 1)).sp args Q → ir_law_formula_6b2b S_draw S_leaf (S_formula d) (endsOf args Q) (rho0 N_law_formula_6b2b args) := by
  rintro args Q ⟨b, dk, ls, yy, room, deep, rfl, h, hl, r1, r2, p1, p2, q⟩
  have hc : cst (d + 1) = 2 * cst d + 3 := rfl
  have c8 := cst_ge d
  refine ⟨rfl, b + 2 * cst d + 2, dk, 9, rfl, h.mono (by omega), ⟨by decide, by decide⟩, fun way dk1 w0 w1 d1 => ?_⟩
  have leaf : ∀ {ρ : En} {D : DE}, D.rt = retOk [.ls (some 0) dk, .d (.list ls), .d (.int room), .d (.int deep)] Q → ρ = [some (.ls (some 0) dk1), some (.d (.list ls)), some (.d (.int room)), some (.d (.int deep)), some (.d (.int way)), none, none, none, none] →
      sRet (fCall S_leaf (aCons (.s 0) (aCons (.e (dVar 1)) aNil))) D ρ := by
    rintro ρ D hD rfl
    refine ⟨rfl, b, dk1, ls, yy, rfl, d1.mono (by omega), hl, fun f dk2 hf d2 => ?_⟩
    rw [hD]
    exact q f dk2 ⟨by rw [hf.1]; exact p1, by rw [hf.2.1]; exact r1, hf.2.2.1, hf.2.2.2⟩ d2
  refine ⟨fun _ => ⟨fun _ => leaf rfl rfl, nofun⟩, fun g1 => ⟨fun _ => ⟨fun _ => leaf rfl rfl, nofun⟩, fun g2 => ⟨fun g3 => ⟨rfl, _, rfl, rfl, fun _ => leaf rfl rfl, fun g4 => ?_⟩, fun g3 => ⟨nofun, fun _ => ?_⟩⟩⟩⟩
  all_goals
    have dp : 2 ≤ deep := by
      have : ¬ ((deep : Int) < 2) := of_decide_eq_false g1
      omega
    have wy : 2 ≤ way := by
      have : ¬ (way < 2) := of_decide_eq_false g2
      omega
    have key : 2 ≤ room ∨ (way ≠ 5 ∧ way ≠ 6 ∧ way ≠ 7) := by
      first
        | (left; have : ¬ ((room : Int) < 2) := of_decide_eq_false g3; omega)
        | (right
           have z : (PyData.eqv (.int 5) (.int way) || (PyData.eqv (.int 6) (.int way) || (PyData.eqv (.int 7) (.int way) || false))) = false := g4
           simp [PyData.eqv] at z
           omega)
    clear g1 g2 g3
    obtain ⟨dp', rfl⟩ : ∃ n, deep = n + 1 := ⟨deep - 1, by omega⟩
    have ed : ((dp' + 1 : Nat) : Int) - 1 = (dp' : Nat) := by omega
    refine ⟨fun g5 => ?_, fun g5 => ⟨fun g6 => ?_, fun g6 => ?_⟩⟩
    · have w5 : way < 5 := of_decide_eq_true g5
      -- a sum or a difference
      have word : ∃ x, atI [PyData.str "add", .str "sub", .str "add"] (way - 2) = some x ∧ (x = .str "add" ∨ x = .str "sub") := by
        obtain ⟨x, e1, e2⟩ := atI_some (xs := [PyData.str "add", .str "sub", .str "add"]) (i := way - 2) (by omega) (by show way - 2 < 3; omega)
        refine ⟨x, e1, ?_⟩
        have := List.mem_of_getElem? e2
        simp only [List.mem_cons, List.not_mem_nil, or_false] at this
        rcases this with h | h | h
        · exact .inl h
        · exact .inr h
        · exact .inl h
      obtain ⟨x, ex, hx⟩ := word
      refine ⟨x, ex, rfl, b + cst d, dk1, ls, yy, room, dp', by rw [← ed]; rfl, d1.mono (by omega), hl, r1, r2, by omega, by omega, fun f dk2 hf d2 => ?_⟩
      refine ⟨rfl, b, dk2, ls, yy, room, dp', by rw [← ed]; rfl, d2, hl, r1, r2, by omega, by omega, fun g dk3 hg d3 => ?_⟩
      obtain ⟨f1, f2, f3, f4⟩ := hf
      obtain ⟨g1, g2, g3, g4⟩ := hg
      rcases hx with rfl | rfl
      · exact q (.add f g) dk3 ⟨by simp only [FT.lev]; omega, by simp only [FT.e]; omega, ⟨f3, g3⟩, by simp only [FT.hasY, Bool.or_eq_true]; exact fun h => h.elim f4 g4⟩ d3
      · exact q (.sub f g) dk3 ⟨by simp only [FT.lev]; omega, by simp only [FT.e]; omega, ⟨f3, g3⟩, by simp only [FT.hasY, Bool.or_eq_true]; exact fun h => h.elim f4 g4⟩ d3
    · -- a power
      refine ⟨rfl, b + 2 * cst d + 1, dk1, _, rfl, d1.mono (by omega), ⟨by omega, ?_⟩, fun r dk2 h0 h1 d2 => ?_⟩
      · exact Nat.lt_of_lt_of_le (log2_lt (k := 20) (by omega) (by decide)) (by decide)
      obtain ⟨n, rfl⟩ : ∃ n : Nat, r = n := ⟨r.toNat, by omega⟩
      have em : (if (n : Int) > 1 then (n : Int) else 1) = ((max 1 n : Nat) : Int) := by split <;> omega
      have er : (room : Int) / (if (n : Int) > 1 then (n : Int) else 1) = ((room / max 1 n : Nat) : Int) := by rw [em, Int.natCast_ediv]
      refine ⟨⟨by rw [em]; omega, ?_⟩, rfl, b, dk2, ls, yy, room / max 1 n, dp', by rw [← ed, ← er]; rfl, d2.mono (by omega), hl, ?_, Nat.le_trans (Nat.div_le_self _ _) r2, by omega, by omega, fun f dk3 hf d3 => ?_⟩
      · rw [em, Int.natAbs_natCast]
        exact Nat.lt_of_lt_of_le (log2_lt (i := ((max 1 n : Nat) : Int)) (k := 20) (by omega) (by decide)) (by decide)
      · exact Nat.div_pos (by omega) (by omega)
      · obtain ⟨f1, f2, f3, f4⟩ := hf
        refine q (.pow f n) dk3 ⟨by simp only [FT.lev]; omega, ?_, f3, f4⟩ d3
        simp only [FT.e]
        exact Nat.le_trans (Nat.mul_le_mul_right _ f2) (Nat.div_mul_le_self _ _)
    · -- a product
      have w5 : ¬ way < 5 := of_decide_eq_false g5
      have w8 : ¬ way = 8 := of_decide_eq_false g6
      have rm : 2 ≤ room := by omega
      refine ⟨rfl, b + 2 * cst d + 1, dk1, _, rfl, d1.mono (by omega), ⟨by omega, ?_⟩, fun r dk2 h0 h1 d2 => ?_⟩
      · exact Nat.lt_of_lt_of_le (log2_lt (k := 20) (by omega) (by decide)) (by decide)
      obtain ⟨n, rfl⟩ : ∃ n : Nat, r = n := ⟨r.toNat, by omega⟩
      have e1 : 1 + (n : Int) = ((1 + n : Nat) : Int) := by omega
      have e2 : (room : Int) - (1 + (n : Int)) = ((room - (1 + n) : Nat) : Int) := by omega
      refine ⟨rfl, b + cst d, dk2, ls, yy, 1 + n, dp', by rw [← ed, ← e1]; rfl, d2.mono (by omega), hl, by omega, by omega, by omega, by omega, fun f dk3 hf d3 => ?_⟩
      refine ⟨rfl, b, dk3, ls, yy, room - (1 + n), dp', by rw [← ed, ← e2]; rfl, d3, hl, by omega, by omega, by omega, by omega, fun g dk4 hg d4 => ?_⟩
      obtain ⟨f1, f2, f3, f4⟩ := hf
      obtain ⟨g1, g2, g3, g4⟩ := hg
      exact q (.mul f g) dk4 ⟨by simp only [FT.lev]; omega, by simp only [FT.e]; omega, ⟨f3, g3⟩, by simp only [FT.hasY, Bool.or_eq_true]; exact fun h => h.elim f4 g4⟩ d4
end DL
namespace DL
open PySem L2 PyProof.Rows
/-! tables -/
def FT.row (f : FT) (c : Int) (n : Nat) : List PD := (List.range n).map fun i => .int (f.val (i : Nat) 0 % c)
theorem FT.row_succ (f : FT) (c : Int) (n : Nat) : f.row c n ++ [.int (f.val (n : Nat) 0 % c)] = f.row c (n + 1) := by
  unfold row
  rw [List.range_succ, List.map_append]
  rfl
theorem FT.row_len (f : FT) (c : Int) (n : Nat) : (f.row c n).length = n := by unfold row; simp
def S_table (d : Nat) : FSpec := ⟨fun args Q => ∃ (f : FT) (c m : Nat), args = [.d f.pd, .d (.int c)] ∧ f.lev ≤ d ∧ f.ok m ∧ c < 2 ^ m ∧ 0 < c ∧ c ≤ 1000000 ∧ Q (.d (.tuple (f.row c c))) []⟩
theorem natAbs_lt {i c m : Nat} (h : c < 2 ^ m) (hi : i < c) : (((0 : Int) + (i : Nat))).natAbs < 2 ^ m := by
  have : ((0 : Int) + (i : Nat)).natAbs = i := by omega
  rw [this]; exact Nat.lt_trans hi h
abbrev N_table : List Str := ["formula", "clock", "x"]
def ir_table (S_hour : FSpec) : TSt :=
  (sRet (fD (dBi bTuple (aCons (.e (dFz (fLc (iRg (aCons (.s 1) aNil)) [2] (.nm 2) cYes (dFz (fCall S_hour (aCons (.e (dVar 0)) (aCons (.e (dVar 1)) (aCons (.e (dVar 2)) (aCons (.e (dC (.int 0))) aNil))))))))) aNil))))
theorem sp_table (d : Nat) : ∀ args Q, (S_table d).sp args Q → ir_table (S_hour d) (endsOf args Q) (rho0 N_table args) := by
  rintro args Q ⟨f, c, m, rfl, hl, ok, hc, c0, c1, q⟩
  refine ⟨by omega, ⟨rfl, rfl⟩, fun i acc ρ => acc = f.row c i ∧ ρ = [some (.d f.pd), some (.d (.int c)), none], ⟨rfl, rfl⟩, fun _ _ _ _ => trivial, ?_, ?_⟩
  · rintro i x acc ρ hx ⟨rfl, rfl⟩
    obtain ⟨rfl, hi⟩ := rngD_get hx
    have hi : i < c := hi
    refine ⟨fun _ => ?_, nofun⟩
    refine ⟨rfl, f, c, _, 0, m, rfl, hl, ok, natAbs_lt hc hi, Nat.pow_pos (by decide), by omega, ?_, ?_, rfl⟩
    · rw [FT.row_len, sizeLine_eq]; omega
    · rw [← FT.row_succ, show (0 : Int) + (i : Nat) = (i : Nat) by omega]
      rfl
  · rintro acc ρ ⟨rfl, rfl⟩
    have e : (Wk.items (rngD 0 ((c : Nat) : Int).toNat)).list.length = c := rngD_len
    rw [e]
    exact q
abbrev N_law_table_aeb6 : List Str := ["formula", "clock", "x"]
def ir_law_table_aeb6 (S_law_worth_98b9 : FSpec) : TSt :=
  (sRet (fD (dBi bTuple (aCons (.e (dFz (fLc (iRg (aCons (.s 1) aNil)) [2] (.nm 2) cYes (dBin bMod (.e (dBi bInt (aCons (.e (dFz (fCall S_law_worth_98b9 (aCons (.e (dVar 0)) (aCons (.e (dVar 2)) (aCons (.e (dC (.int 0))) aNil)))))) aNil))) (.s 1))))) aNil))))
theorem sp_law_table (d : Nat) : ∀ args Q, (S_table d).sp args Q → ir_law_table_aeb6 (S_worth d) (endsOf args Q) (rho0 N_law_table_aeb6 args) := by
  rintro args Q ⟨f, c, m, rfl, hl, ok, hc, c0, c1, q⟩
  refine ⟨by omega, ⟨rfl, rfl⟩, fun i acc ρ => acc = f.row c i ∧ ρ = [some (.d f.pd), some (.d (.int c)), none], ⟨rfl, rfl⟩, fun _ _ _ _ => trivial, ?_, ?_⟩
  · rintro i x acc ρ hx ⟨rfl, rfl⟩
    obtain ⟨rfl, hi⟩ := rngD_get hx
    have hi : i < c := hi
    refine ⟨fun _ => ?_, nofun⟩
    refine ⟨rfl, f, _, 0, m, rfl, hl, ok, natAbs_lt hc hi, Nat.pow_pos (by decide), by omega, ?_, ?_, rfl⟩
    · rw [FT.row_len, sizeLine_eq]; omega
    · rw [← FT.row_succ, show (0 : Int) + (i : Nat) = (i : Nat) by omega]
  · rintro acc ρ ⟨rfl, rfl⟩
    have e : (Wk.items (rngD 0 ((c : Nat) : Int).toNat)).list.length = c := rngD_len
    rw [e]
    exact q
end DL
namespace DL
open PySem L2 PyProof.Rows
/-! reprs of formulas and tables -/
theorem Shw.tup3 {n x y z : Nat} {a b c : PD} (h1 : Shw n x a) (h2 : Shw n y b) (h3 : Shw n z c) : Shw (n + 1) (x + y + z + 9) (.tuple [a, b, c]) := by
  refine ⟨?_, ?_, ?_, ?_⟩
  · simp [noDict, noDictA, h1.nd, h2.nd, h3.nd]
  · simp [shw, shwA, h1.sh, h2.sh, h3.sh]
  · simp only [PyData.depth]
    exact Nat.succ_le_succ (depthAll_le fun w hw => by
      simp only [List.mem_cons, List.not_mem_nil, or_false] at hw
      rcases hw with rfl | rfl | rfl
      · exact h1.dp
      · exact h2.dp
      · exact h3.dp)
  · rw [PyData.shown, shownAll_map]
    have a := tupleText_le 0 ([a, b, c].map PyData.shown)
    have e1 := h1.ln
    have e2 := h2.ln
    have e3 := h3.ln
    simp only [List.map_cons, List.map_nil, lenS] at a ⊢
    omega
def FT.sz (m : Nat) : FT → Nat
  | add a b | sub a b | mul a b => a.sz m + b.sz m + 14
  | pow a _ => a.sz m + 35
  | _ => m + 3
theorem FT.shw {m : Nat} (hm : m ≤ 14000) (h0 : 0 < m) : ∀ {f : FT}, f.le m → f.e < 2 ^ 20 → Shw f.lev (f.sz m) f.pd
  | int i, h, _ => (Shw.int h hm h0).mono (Nat.le_refl _) (by simp only [sz]; omega)
  | x, _, _ => Shw.str (by show _ ≤ m + 3; exact Nat.le_trans (show (reprText "x").length ≤ 3 by decide +kernel) (by omega))
  | y, _, _ => Shw.str (by show _ ≤ m + 3; exact Nat.le_trans (show (reprText "y").length ≤ 3 by decide +kernel) (by omega))
  | add a b, h, he => by
    simp only [FT.e] at he
    have z := Shw.tup3 (n := max a.lev b.lev) (Shw.str (z := 5) (x := "add") (by decide +kernel)) ((shw hm h0 h.1 (by omega)).mono (Nat.le_max_left _ _) (Nat.le_refl _)) ((shw hm h0 h.2 (by omega)).mono (Nat.le_max_right _ _) (Nat.le_refl _))
    exact z.mono (Nat.le_refl _) (by simp only [sz]; omega)
  | sub a b, h, he => by
    simp only [FT.e] at he
    have z := Shw.tup3 (n := max a.lev b.lev) (Shw.str (z := 5) (x := "sub") (by decide +kernel)) ((shw hm h0 h.1 (by omega)).mono (Nat.le_max_left _ _) (Nat.le_refl _)) ((shw hm h0 h.2 (by omega)).mono (Nat.le_max_right _ _) (Nat.le_refl _))
    exact z.mono (Nat.le_refl _) (by simp only [sz]; omega)
  | mul a b, h, he => by
    simp only [FT.e] at he
    have z := Shw.tup3 (n := max a.lev b.lev) (Shw.str (z := 5) (x := "mul") (by decide +kernel)) ((shw hm h0 h.1 (by omega)).mono (Nat.le_max_left _ _) (Nat.le_refl _)) ((shw hm h0 h.2 (by omega)).mono (Nat.le_max_right _ _) (Nat.le_refl _))
    exact z.mono (Nat.le_refl _) (by simp only [sz]; omega)
  | pow a n, h, he => by
    simp only [FT.e] at he
    have e1 : a.e ≤ a.e * max 1 n := Nat.le_mul_of_pos_right _ (by omega)
    have e2 : max 1 n ≤ a.e * max 1 n := Nat.le_mul_of_pos_left _ a.e_pos
    have z := Shw.tup3 (n := a.lev) (Shw.str (z := 5) (x := "pow") (by decide +kernel)) (shw hm h0 (f := a) h (by omega)) (Shw.int (i := (n : Nat)) (k := 20) (by omega))
    exact z.mono (Nat.le_refl _) (by simp only [sz]; omega)
theorem FT.sz_le {m : Nat} : ∀ f : FT, f.sz m + 40 ≤ (m + 40) * 2 ^ f.lev
  | int _ => by simp only [sz, lev]; omega
  | x => by simp only [sz, lev]; omega
  | y => by simp only [sz, lev]; omega
  | add a b => key (sz_le a) (sz_le b)
  | sub a b => key (sz_le a) (sz_le b)
  | mul a b => key (sz_le a) (sz_le b)
  | pow a _ => by
    have h := sz_le (m := m) a
    simp only [sz, lev, Nat.pow_succ]
    have : 40 ≤ (m + 40) * 2 ^ a.lev := Nat.le_trans (by omega) (Nat.le_mul_of_pos_right _ (Nat.pow_pos (by decide)))
    rw [← Nat.mul_assoc]
    omega
where
  key {s t a b : Nat} (h1 : s + 40 ≤ (m + 40) * 2 ^ a) (h2 : t + 40 ≤ (m + 40) * 2 ^ b) : s + t + 14 + 40 ≤ (m + 40) * 2 ^ (max a b + 1) := by
    have x1 : (m + 40) * 2 ^ a ≤ (m + 40) * 2 ^ max a b := Nat.mul_le_mul_left _ (Nat.pow_le_pow_right (by decide) (Nat.le_max_left _ _))
    have x2 : (m + 40) * 2 ^ b ≤ (m + 40) * 2 ^ max a b := Nat.mul_le_mul_left _ (Nat.pow_le_pow_right (by decide) (Nat.le_max_right _ _))
    rw [Nat.pow_succ, ← Nat.mul_assoc]
    omega
/-- a drawn formula's repr -/
theorem FT.drawn.shw {yy : Bool} {room deep : Nat} {f : FT} (h : f.drawn yy 140 room deep) (hr : room ≤ 1000) (hd : deep ≤ 16) : Shw 16 (180 * 2 ^ 16) f.pd := by
  have z := FT.shw (m := 140) (by decide) (by decide) h.2.2.1 (by have := h.2.1; omega)
  refine z.mono (Nat.le_trans h.1 hd) ?_
  have a := f.sz_le (m := 140)
  have b : (140 + 40) * 2 ^ f.lev ≤ 180 * 2 ^ 16 := Nat.mul_le_mul_left _ (Nat.pow_le_pow_right (by decide) (Nat.le_trans h.1 hd))
  omega
/-- .. it is reckoned with -/
theorem FT.drawn.ok {yy : Bool} {room deep m : Nat} {f : FT} (h : f.drawn yy 140 room deep) (hm : 140 ≤ m) (hb : (deep + m) * room ≤ 100000) : f.ok m := by
  obtain ⟨h1, h2, h3, _⟩ := h
  refine ⟨?_, Nat.le_trans (Nat.mul_le_mul (by omega) h2) hb⟩
  have go : ∀ g : FT, g.le 140 → g.le m := fun g => by
    induction g with
    | int i => exact fun h => Nat.lt_of_lt_of_le h (Nat.pow_le_pow_right (by decide) hm)
    | x => exact id
    | y => exact id
    | add a b ha hb => exact fun h => ⟨ha h.1, hb h.2⟩
    | sub a b ha hb => exact fun h => ⟨ha h.1, hb h.2⟩
    | mul a b ha hb => exact fun h => ⟨ha h.1, hb h.2⟩
    | pow a n ha => exact ha
  exact go f h3
theorem FT.row_shw (f : FT) {c n k : Nat} (hc : c ≤ 2 ^ k) (h0 : 0 < c) (hk : k ≤ 14000 := by decide) (hk0 : 0 < k := by decide) : Shw 1 (3 + n * (k + 3)) (.tuple (f.row c n)) := by
  have z := Shw.tup (n := 0) (z := k + 1) (xs := f.row c n) fun x hx => by
    unfold row at hx
    obtain ⟨i, _, rfl⟩ := List.mem_map.mp hx
    have h1 := Int.emod_lt_of_pos (f.val (i : Nat) 0) (b := (c : Int)) (by omega)
    have h2 := Int.emod_nonneg (f.val (i : Nat) 0) (b := (c : Int)) (by omega)
    exact Shw.int (by omega) hk hk0
  rw [FT.row_len] at z
  exact z
theorem FT.row_shp (f : FT) (c : Int) (n : Nat) : Shp 1 (.tuple (f.row c n)) := Shp.tup fun x hx => by
  unfold row at hx
  obtain ⟨i, _, rfl⟩ := List.mem_map.mp hx
  exact .int _
end DL
namespace DL
open PySem L2 PyProof.Rows
/-! clocks and far numbers drawn -/
def S_clock : FSpec := ⟨fun args Q => ∃ (b : Nat) (dk : List PD), args = [.ls (some 0) dk] ∧ Dk (b + 7) dk ∧ ∀ (c : Nat) dk', 0 < c → c ≤ 2 ^ 100 → Dk b dk' → Q (.d (.int c)) [.ls (some 0) dk']⟩
def ClI (x : PD) : Prop := ∃ c : Nat, x = .int c ∧ 0 < c ∧ c ≤ 2 ^ 100
theorem clI {i : Int} (h0 : 0 < i) (h : i ≤ 2 ^ 100) : ClI (.int i) := ⟨i.toNat, by rw [Int.toNat_of_nonneg (by omega)], by omega, by omega⟩
theorem log2_const {i : Int} {k : Nat} (h : i.natAbs < 2 ^ k) (h0 : 0 < k := by decide) (hk : k ≤ 8000 := by decide) : i.natAbs.log2 < 8000 := Nat.lt_of_lt_of_le (log2_lt h h0) hk
abbrev N_law_clock_4333 : List Str := ["deck", "some"]
def ir_law_clock_4333 (S_law_draw_a51a : FSpec) (S_law_one_90da : FSpec) : TSt :=
  (sSeq (sAsg 1 (fLst (aCons (.e (dBin bAdd (.e (dC (.int 1))) (.e (dFz (fCall S_law_draw_a51a (aCons (.s 0) (aCons (.e (dC (.int 12))) aNil))))))) (aCons (.e (dBin bAdd (.e (dC (.int 1))) (.e (dFz (fCall S_law_draw_a51a (aCons (.s 0) (aCons (.e (dC (.int 60))) aNil))))))) (aCons (.e (dBin bShl (.e (dC (.int 1))) (.e (dFz (fCall S_law_draw_a51a (aCons (.s 0) (aCons (.e (dC (.int 100))) aNil))))))) (aCons (.e (dC (.int 720))) (aCons (.e (dC (.int 30030))) (aCons (.e (dBin bMulI (.e (dC (.int 2))) (.e (dBin bPow (.e (dC (.int 10))) (.e (dC (.int 12))))))) aNil))))))))
    (sSeq (sAsg 1 (fD (dBin bAdd (.s 1) (.e (dFz (fLst (aCons (.e (dBin bSub (.e (dBin bPow (.e (dC (.int 10))) (.e (dC (.int 30))))) (.e (dFz (fCall S_law_draw_a51a (aCons (.s 0) (aCons (.e (dC (.int 1000))) aNil))))))) (aCons (.e (dBin bAdd (.e (dC (.int 1))) (.e (dBin bMulI (.e (dFz (fCall S_law_draw_a51a (aCons (.s 0) (aCons (.e (dBin bPow (.e (dC (.int 10))) (.e (dC (.int 15))))) aNil))))) (.e (dFz (fCall S_law_draw_a51a (aCons (.s 0) (aCons (.e (dBin bPow (.e (dC (.int 10))) (.e (dC (.int 15))))) aNil))))))))) aNil))))))))
    (sRet (fCall S_law_one_90da (aCons (.s 0) (aCons (.e (dVar 1)) aNil))))))
theorem sp_clock : ∀ args Q, S_clock.sp args Q → ir_law_clock_4333 S_draw S_one (endsOf args Q) (rho0 N_law_clock_4333 args) := by
  rintro args Q ⟨b, dk, rfl, h, q⟩
  have e30 : (10 : Int) ^ (30 : Int).toNat = 1000000000000000000000000000000 := rfl
  have e15 : (10 : Int) ^ (15 : Int).toNat = 1000000000000000 := rfl
  have e12 : (10 : Int) ^ (12 : Int).toNat = 1000000000000 := rfl
  refine ⟨rfl, b + 6, dk, 12, rfl, h, ⟨by decide, by decide⟩, fun r1 dk1 a0 a1 d1 => ?_⟩
  refine ⟨rfl, b + 5, dk1, 60, rfl, d1, ⟨by decide, by decide⟩, fun r2 dk2 b0 b1 d2 => ?_⟩
  refine ⟨rfl, b + 4, dk2, 100, rfl, d2, ⟨by decide, by decide⟩, fun r3 dk3 c0 c1 d3 => ?_⟩
  refine ⟨⟨c0, by omega, by decide⟩, powOk (k := 4) (m := 12) (by decide) (by decide) (by decide), mulOk 2 50 (by decide) (by decide), powOk (k := 4) (m := 30) (by decide) (by decide) (by decide), ?_⟩
  refine ⟨rfl, b + 3, dk3, 1000, rfl, d3, ⟨by decide, by decide⟩, fun r4 dk4 f0 f1 d4 => ?_⟩
  refine ⟨powOk (k := 4) (m := 15) (by decide) (by decide) (by decide), rfl, b + 2, dk4, _, rfl, d4, ⟨by decide, by decide⟩, fun r5 dk5 g0 g1 d5 => ?_⟩
  refine ⟨powOk (k := 4) (m := 15) (by decide) (by decide) (by decide), rfl, b + 1, dk5, _, rfl, d5, ⟨by decide, by decide⟩, fun r6 dk6 h0 h1 d6 => ?_⟩
  rw [e15] at g1 h1
  refine ⟨mulOk 60 60 (by omega) (by omega), by show 6 + 2 ≤ sizeLine; rw [sizeLine_eq]; decide, ?_⟩
  refine ⟨rfl, b, dk6, _, rfl, d6, ⟨Nat.succ_pos _, by show 8 < 2 ^ 60; decide⟩, fun z dk7 hz d7 => ?_⟩
  have p3 : (1 : Int) * 2 ^ r3.toNat ≤ 2 ^ 100 := by
    rw [Int.one_mul]
    have : (2 : Nat) ^ r3.toNat ≤ 2 ^ 100 := Nat.pow_le_pow_right (by decide) (by omega)
    exact_mod_cast this
  have p3' : (0 : Int) < 1 * 2 ^ r3.toNat := by
    rw [Int.one_mul]; exact Int.pow_pos (by decide)
  have p5 : r5 * r6 ≤ 1000000000000000 * 1000000000000000 := Int.mul_le_mul (by omega) (by omega) h0 (by omega)
  have p5' : 0 ≤ r5 * r6 := Int.mul_nonneg g0 h0
  have all : ∀ x ∈ [PyData.int (1 + r1), .int (1 + r2), .int (1 * 2 ^ r3.toNat), .int 720, .int 30030, .int (2 * 10 ^ (12 : Int).toNat), .int (10 ^ (30 : Int).toNat - r4), .int (1 + r5 * r6)], ClI x := by
    simp only [List.forall_mem_cons]
    exact ⟨clI (by omega) (by omega), clI (by omega) (by omega), clI p3' p3, clI (by decide) (by decide), clI (by decide) (by decide), clI (by decide) (by decide), clI (by rw [e30]; omega) (by rw [e30]; omega), clI (by omega) (by omega), fun x hx => by cases hx⟩
  obtain ⟨c, rfl, k0, k1⟩ := all z hz
  exact q c dk7 k0 k1 d7
def S_far : FSpec := ⟨fun args Q => ∃ (b : Nat) (dk : List PD), args = [.ls (some 0) dk] ∧ Dk (b + 5) dk ∧ ∀ (i : Int) dk', i.natAbs < 2 ^ 200 → Dk b dk' → Q (.d (.int i)) [.ls (some 0) dk']⟩
abbrev N_law_far_43d2 : List Str := ["deck", "far"]
def ir_law_far_43d2 (S_law_draw_a51a : FSpec) (S_law_one_90da : FSpec) : TSt :=
  (sSeq (sAsg 1 (fD (dBin bAdd (.e (dBin bMulI (.e (dFz (fCall S_law_draw_a51a (aCons (.s 0) (aCons (.e (dBin bPow (.e (dC (.int 10))) (.e (dC (.int 30))))) aNil))))) (.e (dBin bPow (.e (dC (.int 10))) (.e (dC (.int 30))))))) (.e (dFz (fCall S_law_draw_a51a (aCons (.s 0) (aCons (.e (dBin bPow (.e (dC (.int 10))) (.e (dC (.int 30))))) aNil))))))))
    (sRet (fCall S_law_one_90da (aCons (.s 0) (aCons (.e (dFz (fLst (aCons (.e (dFz (fCall S_law_draw_a51a (aCons (.s 0) (aCons (.e (dC (.int 20))) aNil))))) (aCons (.e (dBin bSub (.e (dFz (fCall S_law_draw_a51a (aCons (.s 0) (aCons (.e (dC (.int 200))) aNil))))) (.e (dC (.int 100))))) (aCons (.e (dVar 1)) (aCons (.e (dNeg (.s 1))) aNil))))))) aNil)))))
theorem sp_far : ∀ args Q, S_far.sp args Q → ir_law_far_43d2 S_draw S_one (endsOf args Q) (rho0 N_law_far_43d2 args) := by
  rintro args Q ⟨b, dk, rfl, h, q⟩
  have e30 : (10 : Int) ^ (30 : Int).toNat = 1000000000000000000000000000000 := rfl
  refine ⟨powOk (k := 4) (m := 30) (by decide) (by decide) (by decide), rfl, b + 4, dk, _, rfl, h, ⟨by decide, by decide⟩, fun r1 dk1 a0 a1 d1 => ?_⟩
  rw [e30] at a1
  refine ⟨powOk (k := 4) (m := 30) (by decide) (by decide) (by decide), mulOk 100 100 (by omega) (by decide), powOk (k := 4) (m := 30) (by decide) (by decide) (by decide), rfl, b + 3, dk1, _, rfl, d1, ⟨by decide, by decide⟩, fun r2 dk2 b0 b1 d2 => ?_⟩
  rw [e30] at b1
  have far : (r1 * 10 ^ (30 : Int).toNat + r2).natAbs < 2 ^ 200 := by
    rw [e30]; omega
  obtain ⟨w, hw⟩ : ∃ w, w = r1 * 10 ^ (30 : Int).toNat + r2 := ⟨_, rfl⟩
  rw [← hw] at far
  refine ⟨rfl, b + 2, dk2, 20, rfl, d2, ⟨by decide, by decide⟩, fun r3 dk3 c0 c1 d3 => ?_⟩
  refine ⟨rfl, b + 1, dk3, 200, rfl, d3, ⟨by decide, by decide⟩, fun r4 dk4 f0 f1 d4 => ?_⟩
  refine ⟨rfl, b, dk4, _, rfl, d4, ⟨Nat.succ_pos _, by show 4 < 2 ^ 60; decide⟩, fun z dk5 hz d5 => ?_⟩
  rw [← hw] at hz
  have all : ∀ x ∈ [PyData.int r3, .int (r4 - 100), .int w, .int (-w)], ∃ i : Int, x = .int i ∧ i.natAbs < 2 ^ 200 := by
    simp only [List.forall_mem_cons]
    exact ⟨⟨_, rfl, by omega⟩, ⟨_, rfl, by omega⟩, ⟨_, rfl, far⟩, ⟨_, rfl, by omega⟩, fun x hx => by cases hx⟩
  obtain ⟨i, rfl, hi⟩ := all z hz
  exact q i dk5 hi d5
/-! hours alone count -/
theorem emod_pow {a b c : Int} (h : a % c = b % c) : ∀ n : Nat, a ^ n % c = b ^ n % c
  | 0 => by rw [Int.pow_zero, Int.pow_zero]
  | n + 1 => by rw [Int.pow_succ, Int.pow_succ, Int.mul_emod, emod_pow h n, h, ← Int.mul_emod]
theorem FT.val_cong {c u u' v v' : Int} (hu : u % c = u' % c) (hv : v % c = v' % c) : ∀ f : FT, f.val u v % c = f.val u' v' % c
  | int i => rfl
  | x => hu
  | y => hv
  | add a b => by simp only [val]; rw [Int.add_emod, val_cong hu hv a, val_cong hu hv b, ← Int.add_emod]
  | sub a b => by simp only [val]; rw [Int.sub_emod, val_cong hu hv a, val_cong hu hv b, ← Int.sub_emod]
  | mul a b => by simp only [val]; rw [Int.mul_emod, val_cong hu hv a, val_cong hu hv b, ← Int.mul_emod]
  | pow a n => by simp only [val]; exact emod_pow (val_cong hu hv a) n
theorem lets_xy : Lets true [FT.x.pd, FT.y.pd] := ⟨by decide, by decide, fun l hl => by
  simp only [List.mem_cons, List.not_mem_nil, or_false] at hl
  rcases hl with h | h
  · exact .inl h
  · exact .inr ⟨rfl, h⟩⟩
end DL
namespace DL
open PySem L2 PyProof.Rows
/-! common divisors, falling products, formulas that are nearly alike -/
def natAt (i : Nat) (ρ : En) : Nat := match ρ[i]? with
  | some (some (.d (.int n))) => n.toNat
  | _ => 0
def S_common : FSpec := ⟨fun args Q => ∃ a b : Nat, args = [.d (.int a), .d (.int b)] ∧ Q (.d (.int (Nat.gcd a b))) []⟩
abbrev N_law_common_ae84 : List Str := ["one", "other"]
def ir_law_common_ae84 : TSt :=
  (sSeq (sWhile (tVal (dBin cGt (.s 1) (.e (dC (.int 0))))) (sPar 0 1 (fD (dVar 1)) (fD (dBin bMod (.e (dBi bInt (aCons (.s 0) aNil))) (.s 1)))))
    (sRetV 0))
theorem gcd_turn {x y : Nat} (h : 0 < y) : Nat.gcd y (x % y) = Nat.gcd x y := by
  rw [Nat.gcd_comm x y, Nat.gcd_rec y x, Nat.gcd_comm]
theorem sp_law_common : ∀ args Q, S_common.sp args Q → ir_law_common_ae84 (endsOf args Q) (rho0 N_law_common_ae84 args) := by
  rintro args Q ⟨a, b, rfl, q⟩
  refine ⟨fun ρ => ∃ x y : Nat, ρ = [some (.d (.int x)), some (.d (.int y))] ∧ Nat.gcd x y = Nat.gcd a b, natAt 1, ⟨a, b, rfl, rfl⟩, ?_⟩
  rintro ρ ⟨x, y, rfl, hg⟩
  refine ⟨fun h => ?_, fun h => ?_⟩
  · have hy : (0 : Int) < (y : Int) := of_decide_eq_true h
    refine ⟨hy, ⟨y, x % y, by rw [Int.natCast_emod]; rfl, ?_⟩, ?_⟩
    · rw [gcd_turn (by omega)]; exact hg
    · show ((x : Int) % (y : Int)).toNat < ((y : Nat) : Int).toNat
      have h1 := Int.emod_lt_of_pos (x : Int) hy
      have h2 := Int.emod_nonneg (x : Int) (b := (y : Int)) (by omega)
      omega
  · have hy : ¬ (0 : Int) < (y : Int) := of_decide_eq_false h
    have : y = 0 := by omega
    subst this
    rw [Nat.gcd_zero_right] at hg
    subst hg
    exact q
def fallI (x : Int) : Nat → Int
  | 0 => 1
  | n + 1 => fallI x n * (x - (n : Nat))
theorem fallI_small {x : Int} {m : Nat} : ∀ {n : Nat}, x.natAbs + n < 2 ^ m → (fallI x n).natAbs < 2 ^ (m * n + 1)
  | 0, _ => by show (1 : Int).natAbs < _; simp
  | n + 1, h => by
    have a := fallI_small (x := x) (m := m) (n := n) (by omega)
    have b : (x - (n : Nat)).natAbs < 2 ^ m := by omega
    exact two_mul a b (by rw [Nat.mul_add]; omega)
def S_falling : FSpec := ⟨fun args Q => ∃ (x : Int) (n m : Nat), args = [.d (.int x), .d (.int n)] ∧ x.natAbs + n < 2 ^ m ∧ 0 < m ∧ n ≤ 100000 ∧ m * n + m ≤ 400000 ∧ Q (.d (.int (fallI x n))) []⟩
abbrev N_law_falling_d92b : List Str := ["x", "many", "found", "k"]
def ir_law_falling_d92b : TSt :=
  (sSeq (sAsg 2 (fD (dC (.int 1))))
    (sSeq (sFor (iRg (aCons (.s 1) aNil)) (.nm 3) (sAsg 2 (fD (dBin bMulI (.s 2) (.e (dBin bSub (.s 0) (.s 3)))))))
    (sRetV 2)))
theorem sp_law_falling : ∀ args Q, S_falling.sp args Q → ir_law_falling_d92b (endsOf args Q) (rho0 N_law_falling_d92b args) := by
  rintro args Q ⟨x, n, m, rfl, h1, h2, h3, h4, q⟩
  refine ⟨by omega, _, rfl, fun i ρ => ∃ t, ρ = [some (.d (.int x)), some (.d (.int n)), some (.d (.int (fallI x i))), t], ⟨none, rfl⟩, ?_, ?_⟩
  · rintro i y ρ hx ⟨t, rfl⟩
    obtain ⟨rfl, hi⟩ := rngD_get hx
    have hi : i < n := hi
    have e : (0 : Int) + (i : Nat) = (i : Nat) := by omega
    rw [e]
    refine ⟨mulOk (m * i + 1) m (fallI_small (by omega)) (by omega) ?_ (by omega) h2, ?_⟩
    · have : m * i ≤ m * n := Nat.mul_le_mul_left _ (by omega)
      omega
    · exact ⟨_, rfl⟩
  · rintro ρ ⟨t, rfl⟩
    rw [rngD_len]
    exact q
theorem fallI_fact : ∀ (n k : Nat), fallI ((n + k : Nat) : Int) n > 0
  | 0, _ => by show (0 : Int) < 1; decide
  | n + 1, k => by
    have h := fallI_fact n (k + 1)
    rw [show n + (k + 1) = n + 1 + k by omega] at h
    exact Int.mul_pos h (by omega)
/-- the degree -/
def FT.deg : FT → Nat
  | int _ => 0
  | x => 1
  | y => 1
  | add a b | sub a b => max a.deg b.deg
  | mul a b => a.deg + b.deg
  | pow a n => a.deg * n
theorem FT.deg_le : ∀ f : FT, f.deg ≤ f.e
  | int _ => Nat.zero_le _
  | x => Nat.le_refl _
  | y => Nat.le_refl _
  | add a b => by have := a.deg_le; have := b.deg_le; simp only [deg, e]; omega
  | sub a b => by have := a.deg_le; have := b.deg_le; simp only [deg, e]; omega
  | mul a b => by have := a.deg_le; have := b.deg_le; simp only [deg, e]; omega
  | pow a n => by
    simp only [deg, e]
    exact Nat.mul_le_mul a.deg_le (by omega)
def chainF (l : FT) : Nat → FT
  | 0 => .int 1
  | 1 => .sub l (.int 0)
  | n + 2 => .mul (chainF l (n + 1)) (.sub l (.int ((n + 1 : Nat))))
def isLetter (l : FT) : Prop := l = .x ∨ l = .y
theorem chainF_ok {l : FT} (hl : isLetter l) : ∀ {n : Nat}, n < 1000 → (chainF l n).lev ≤ n + 1 ∧ (chainF l n).e ≤ max 1 n ∧ (chainF l n).le 140 ∧ (chainF l n).deg ≤ n ∧ (chainF l n).sz 140 ≤ 400 * (n + 1)
  | 0, _ => ⟨Nat.le_refl _, Nat.le_refl _, (show (1 : Int).natAbs < 2 ^ 140 by decide), Nat.le_refl _, by show 140 + 3 ≤ 400 * (0 + 1); decide⟩
  | 1, _ => by rcases hl with rfl | rfl <;> exact ⟨by decide, by decide, ⟨trivial, (show (0 : Int).natAbs < 2 ^ 140 by decide)⟩, by decide, by decide⟩
  | n + 2, h => by
    obtain ⟨a, b, c, d, z⟩ := chainF_ok hl (n := n + 1) (by omega)
    have s : ((n + 1 : Nat) : Int).natAbs < 2 ^ 140 := by
      rw [Int.natAbs_natCast]; omega
    have ll : l.lev = 1 ∧ l.e = 1 ∧ l.le 140 ∧ l.deg = 1 ∧ l.sz 140 = 143 := by rcases hl with rfl | rfl <;> exact ⟨rfl, rfl, trivial, rfl, rfl⟩
    refine ⟨?_, ?_, ⟨c, ll.2.2.1, s⟩, ?_, ?_⟩
    · simp only [chainF, FT.lev]; omega
    · simp only [chainF, FT.e]; omega
    · simp only [chainF, FT.deg]; omega
    · simp only [chainF, FT.sz]; omega
def S_chain : FSpec := ⟨fun args Q => ∃ (l : FT) (n : Nat), args = [.d l.pd, .d (.int n)] ∧ isLetter l ∧ n ≤ 900 ∧ Q (.d (chainF l n).pd) []⟩
abbrev N_law_chain_f3d4 : List Str := ["letter", "many", "found", "k"]
def ir_law_chain_f3d4 : TSt :=
  (sSeq (sAsg 2 (fD (dC (.int 1))))
    (sSeq (sFor (iRg (aCons (.s 1) aNil)) (.nm 3) (sAsg 2 (fD (dIte (tVal (dBin cEq (.s 3) (.e (dC (.int 0))))) (dTup (aCons (.e (dC (.str "sub"))) (aCons (.e (dVar 0)) (aCons (.e (dVar 3)) aNil)))) (dTup (aCons (.e (dC (.str "mul"))) (aCons (.e (dVar 2)) (aCons (.e (dTup (aCons (.e (dC (.str "sub"))) (aCons (.e (dVar 0)) (aCons (.e (dVar 3)) aNil))))) aNil))))))))
    (sRetV 2)))
theorem sp_law_chain : ∀ args Q, S_chain.sp args Q → ir_law_chain_f3d4 (endsOf args Q) (rho0 N_law_chain_f3d4 args) := by
  rintro args Q ⟨l, n, rfl, hl, hn, q⟩
  refine ⟨by omega, _, rfl, fun i ρ => ∃ t, ρ = [some (.d l.pd), some (.d (.int n)), some (.d (chainF l i).pd), t], ⟨none, rfl⟩, ?_, ?_⟩
  · rintro i y ρ hx ⟨t, rfl⟩
    obtain ⟨rfl, hi⟩ := rngD_get hx
    refine ⟨fun h => ?_, fun h => ?_⟩
    · have z : (0 : Int) + (i : Nat) = 0 := of_decide_eq_true h
      have : i = 0 := by omega
      subst this
      exact ⟨_, rfl⟩
    · have z : ¬ (0 : Int) + (i : Nat) = 0 := of_decide_eq_false h
      obtain ⟨j, rfl⟩ : ∃ j, i = j + 1 := ⟨i - 1, by omega⟩
      have e : (0 : Int) + ((j + 1 : Nat) : Int) = ((j + 1 : Nat) : Int) := by omega
      rw [e]
      exact ⟨_, rfl⟩
  · rintro ρ ⟨t, rfl⟩
    rw [rngD_len]
    exact q
/-- what is drawn to be held against another: to be reckoned with, of degree at most 16 -/
def FT.ok2 (f : FT) : Prop := f.lev ≤ 17 ∧ f.e ≤ 20 ∧ f.le 140 ∧ f.deg ≤ 16 ∧ f.sz 140 ≤ 100000
def S_near : FSpec := ⟨fun args Q => ∃ (b : Nat) (dk : List PD) (f : FT) (c : Nat), args = [.ls (some 0) dk, .d f.pd, .d (.int c)] ∧ Dk (b + 8) dk ∧ (f.lev ≤ 4 ∧ f.e ≤ 8 ∧ f.le 140) ∧ 0 < c ∧ c ≤ 2 ^ 100 ∧
  ∀ (g : FT) dk', g.ok2 → Dk b dk' → Q (.d g.pd) [.ls (some 0) dk']⟩
abbrev N_law_near_025f : List Str := ["deck", "formula", "clock", "i", "j", "letters", "step", "more"]
def ir_law_near_025f (S_law_one_90da : FSpec) (S_law_draw_a51a : FSpec) (S_law_common_ae84 : FSpec) (S_law_falling_d92b : FSpec) (S_law_chain_f3d4 : FSpec) : TSt :=
  (sSeq (sAsg 3 (fCall S_law_one_90da (aCons (.s 0) (aCons (.e (dFz (fLst (aCons (.e (dFz (fCall S_law_draw_a51a (aCons (.s 0) (aCons (.e (dC (.int 5))) aNil))))) (aCons (.e (dFz (fCall S_law_draw_a51a (aCons (.s 0) (aCons (.e (dC (.int 13))) aNil))))) aNil))))) aNil))))
    (sSeq (sAsg 4 (fCall S_law_draw_a51a (aCons (.s 0) (aCons (.e (dBi bMin2 (aCons (.e (dC (.int 4))) (aCons (.e (dBin bSub (.e (dC (.int 15))) (.s 3))) aNil)))) aNil))))
    (sSeq (sAsg 5 (fCall S_law_one_90da (aCons (.s 0) (aCons (.e (dFz (fLst (aCons (.e (dC (.str "xy"))) (aCons (.e (dC (.str "yx"))) aNil))))) aNil))))
    (sSeq (sAsg 6 (fD (dBin bFdiv (.s 2) (.e (dFz (fCall S_law_common_ae84 (aCons (.e (dVar 2)) (aCons (.e (dBin bMulI (.e (dFz (fCall S_law_falling_d92b (aCons (.e (dVar 3)) (aCons (.e (dVar 3)) aNil))))) (.e (dFz (fCall S_law_falling_d92b (aCons (.e (dVar 4)) (aCons (.e (dVar 4)) aNil))))))) aNil))))))))
    (sSeq (sAsg 6 (fD (dBi bMax2 (aCons (.e (dC (.int 1))) (aCons (.e (dBin bAdd (.s 6) (.e (dFz (fCall S_law_one_90da (aCons (.s 0) (aCons (.e (dFz (fLst (aCons (.e (dC (.int 0))) (aCons (.e (dC (.int 0))) (aCons (.e (dC (.int 0))) (aCons (.e (dC (.int 1))) (aCons (.e (dNeg (.e (dC (.int 1))))) aNil)))))))) aNil))))))) aNil)))))
    (sSeq (sAsg 7 (fD (dTup (aCons (.e (dC (.str "mul"))) (aCons (.e (dFz (fCall S_law_chain_f3d4 (aCons (.e (dBin bIx (.s 5) (.e (dC (.int 0))))) (aCons (.e (dVar 3)) aNil))))) (aCons (.e (dFz (fCall S_law_chain_f3d4 (aCons (.e (dBin bIx (.s 5) (.e (dC (.int 1))))) (aCons (.e (dVar 4)) aNil))))) aNil))))))
    (sSeq (sAsg 7 (fD (dTup (aCons (.e (dC (.str "mul"))) (aCons (.e (dTup (aCons (.e (dC (.str "mul"))) (aCons (.e (dVar 6)) (aCons (.e (dFz (fCall S_law_one_90da (aCons (.s 0) (aCons (.e (dFz (fLst (aCons (.e (dC (.int 1))) (aCons (.e (dNeg (.e (dC (.int 1))))) (aCons (.e (dC (.int 2))) (aCons (.e (dC (.int 5))) aNil))))))) aNil))))) aNil))))) (aCons (.e (dVar 7)) aNil))))))
    (sRet (fCall S_law_one_90da (aCons (.s 0) (aCons (.e (dFz (fLst (aCons (.e (dTup (aCons (.e (dC (.str "add"))) (aCons (.e (dVar 1)) (aCons (.e (dVar 7)) aNil))))) (aCons (.e (dTup (aCons (.e (dC (.str "sub"))) (aCons (.e (dVar 1)) (aCons (.e (dVar 7)) aNil))))) (aCons (.e (dTup (aCons (.e (dC (.str "add"))) (aCons (.e (dVar 7)) (aCons (.e (dTup (aCons (.e (dC (.str "mul"))) (aCons (.e (dC (.int 1))) (aCons (.e (dVar 1)) aNil))))) aNil))))) aNil)))))) aNil)))))))))))
theorem sign1 : (PyData.str ⟨#[120]⟩ = FT.x.pd) ∧ (PyData.str ⟨#[121]⟩ = FT.y.pd) := ⟨congrArg PyData.str (by decide +kernel), congrArg PyData.str (by decide +kernel)⟩
theorem two_signs {z : PD} (h : z ∈ [PyData.str "xy", PyData.str "yx"]) : ∃ s : Str, z = .str s ∧ s.length ≤ sizeLine ∧ ∃ (c d : Nat) (l m : FT), atI s.cps.toList 0 = some c ∧ atI s.cps.toList 1 = some d ∧ PyData.str ⟨#[c]⟩ = l.pd ∧ PyData.str ⟨#[d]⟩ = m.pd ∧ isLetter l ∧ isLetter m := by
  simp only [List.mem_cons, List.not_mem_nil, or_false] at h
  rcases h with rfl | rfl
  · exact ⟨_, rfl, by rw [sizeLine_eq]; decide +kernel, 120, 121, .x, .y, by decide +kernel, by decide +kernel, sign1.1, sign1.2, .inl rfl, .inr rfl⟩
  · exact ⟨_, rfl, by rw [sizeLine_eq]; decide +kernel, 121, 120, .y, .x, by decide +kernel, by decide +kernel, sign1.2, sign1.1, .inr rfl, .inl rfl⟩
theorem sp_near : ∀ args Q, S_near.sp args Q → ir_law_near_025f S_one S_draw S_common S_falling S_chain (endsOf args Q) (rho0 N_law_near_025f args) := by
  rintro args Q ⟨b, dk, f, c, rfl, h, hf, c0, c1, q⟩
  refine ⟨rfl, b + 7, dk, 5, rfl, h, ⟨by decide, by decide⟩, fun r1 dk1 a0 a1 d1 => ?_⟩
  refine ⟨rfl, b + 6, dk1, 13, rfl, d1, ⟨by decide, by decide⟩, fun r2 dk2 b0 b1 d2 => ?_⟩
  refine ⟨rfl, b + 5, dk2, _, rfl, d2, ⟨Nat.succ_pos _, by show 2 < 2 ^ 60; decide⟩, fun zi dk3 hz d3 => ?_⟩
  have hzi : ∃ i : Nat, zi = .int i ∧ i ≤ 12 := by
    simp only [List.mem_cons, List.not_mem_nil, or_false] at hz
    rcases hz with rfl | rfl
    · exact ⟨r1.toNat, by rw [Int.toNat_of_nonneg a0]; rfl, by omega⟩
    · exact ⟨r2.toNat, by rw [Int.toNat_of_nonneg b0]; rfl, by omega⟩
  obtain ⟨i, rfl, hi⟩ := hzi
  have mn : (0 : Int) < (if (15 : Int) - ((i : Nat) : Int) < 4 then (15 : Int) - ((i : Nat) : Int) else 4) ∧ (if (15 : Int) - ((i : Nat) : Int) < 4 then (15 : Int) - ((i : Nat) : Int) else 4) ≤ 4 := by split <;> omega
  refine ⟨rfl, b + 4, dk3, _, rfl, d3, ⟨mn.1, log2_const (k := 10) (by omega)⟩, fun r3 dk4 e0 e1 d4 => ?_⟩
  have hj3 : r3 < 4 ∧ r3 < 15 - (i : Nat) ∨ r3 < 4 := by right; omega
  have hj : r3 < 4 := by omega
  have hij : (i : Int) + r3 < 16 := by omega
  obtain ⟨j, rfl⟩ : ∃ j : Nat, r3 = j := ⟨r3.toNat, by omega⟩
  refine ⟨rfl, b + 3, dk4, _, rfl, d4, ⟨Nat.succ_pos _, by show 2 < 2 ^ 60; decide⟩, fun zs dk5 hs d5 => ?_⟩
  obtain ⟨s, rfl, hsl, ca, cb, l, m, x0, x1, y0, y1, il, im⟩ := two_signs hs
  have fp : ∀ n : Nat, n ≤ 12 → 0 < fallI (n : Nat) n ∧ (fallI (n : Nat) n).natAbs < 2 ^ (5 * n + 1) := fun n hn => ⟨by have := fallI_fact n 0; simpa using this, fallI_small (by omega)⟩
  refine ⟨rfl, (i : Nat), i, 5, rfl, by omega, by decide, by omega, by omega, ?_⟩
  refine ⟨rfl, (j : Nat), j, 5, rfl, by omega, by decide, by omega, by omega, ?_⟩
  have fi := fp i hi
  have fj := fp j (by omega)
  refine ⟨mulOk (5 * i + 1) (5 * j + 1) fi.2 fj.2 (by omega) (by omega) (by omega), ?_⟩
  obtain ⟨N, hN⟩ : ∃ N : Nat, fallI (i : Nat) i * fallI (j : Nat) j = (N : Nat) := ⟨(fallI (i : Nat) i * fallI (j : Nat) j).toNat, by rw [Int.toNat_of_nonneg (Int.le_of_lt (Int.mul_pos fi.1 fj.1))]⟩
  refine ⟨rfl, c, N, by rw [← hN], ?_⟩
  have gp : 0 < Nat.gcd c N := Nat.gcd_pos_of_pos_left _ c0
  have gl : Nat.gcd c N ≤ c := Nat.le_of_dvd c0 (Nat.gcd_dvd_left _ _)
  refine ⟨⟨by omega, Nat.lt_trans (log2_const (i := ((Nat.gcd c N : Nat) : Int)) (k := 110) (by rw [Int.natAbs_natCast]; omega)) (by decide)⟩, ?_⟩
  refine ⟨rfl, b + 2, dk5, _, rfl, d5, ⟨Nat.succ_pos _, by show 5 < 2 ^ 60; decide⟩, fun zo dk6 ho d6 => ?_⟩
  have hzo : ∃ o : Int, zo = .int o ∧ -1 ≤ o ∧ o ≤ 1 := by
    have all : ∀ x ∈ [PyData.int 0, .int 0, .int 0, .int 1, .int (-1)], ∃ o : Int, x = .int o ∧ -1 ≤ o ∧ o ≤ 1 := by
      simp only [List.forall_mem_cons]
      exact ⟨⟨_, rfl, by decide, by decide⟩, ⟨_, rfl, by decide, by decide⟩, ⟨_, rfl, by decide, by decide⟩, ⟨_, rfl, by decide, by decide⟩, ⟨_, rfl, by decide, by decide⟩, fun x hx => by cases hx⟩
    exact all zo ho
  obtain ⟨o, rfl, o0, o1⟩ := hzo
  have dv : (0 : Int) ≤ (c : Int) / (Nat.gcd c N : Nat) ∧ (c : Int) / (Nat.gcd c N : Nat) ≤ c := ⟨Int.ediv_nonneg (by omega) (by omega), Int.ediv_le_self _ (by omega)⟩
  have st : (if (c : Int) / (Nat.gcd c N : Nat) + o > 1 then (c : Int) / (Nat.gcd c N : Nat) + o else 1).natAbs < 2 ^ 140 := by split <;> omega
  refine ⟨hsl, ca, x0, rfl, l, i, by rw [← y0], il, by omega, ?_⟩
  refine ⟨hsl, cb, x1, rfl, m, j, by rw [← y1], im, by omega, ?_⟩
  refine ⟨rfl, b + 1, dk6, _, rfl, d6, ⟨Nat.succ_pos _, by show 4 < 2 ^ 60; decide⟩, fun zt dk7 ht d7 => ?_⟩
  have hzt : ∃ o : Int, zt = .int o ∧ o.natAbs < 2 ^ 140 := by
    have all : ∀ x ∈ [PyData.int 1, .int (-1), .int 2, .int 5], ∃ o : Int, x = .int o ∧ o.natAbs < 2 ^ 140 := by
      simp only [List.forall_mem_cons]
      exact ⟨⟨_, rfl, by decide⟩, ⟨_, rfl, by decide⟩, ⟨_, rfl, by decide⟩, ⟨_, rfl, by decide⟩, fun x hx => by cases hx⟩
    exact all zt ht
  obtain ⟨t, rfl, ht'⟩ := hzt
  refine ⟨rfl, b, dk7, _, rfl, d7, ⟨Nat.succ_pos _, by show 3 < 2 ^ 60; decide⟩, fun z dk8 hz d8 => ?_⟩
  have ki := chainF_ok il (n := i) (by omega)
  have kj := chainF_ok im (n := j) (by omega)
  obtain ⟨w, hw⟩ : ∃ w, w = (if (c : Int) / (Nat.gcd c N : Nat) + o > 1 then (c : Int) / (Nat.gcd c N : Nat) + o else 1) := ⟨_, rfl⟩
  rw [← hw] at st
  have key : ∃ g : FT, z = g.pd ∧ g.ok2 := by
    have hz' : z ∈ [(FT.add f (.mul (.mul (.int w) (.int t)) (.mul (chainF l i) (chainF m j)))).pd, (FT.sub f (.mul (.mul (.int w) (.int t)) (.mul (chainF l i) (chainF m j)))).pd, (FT.add (.mul (.mul (.int w) (.int t)) (.mul (chainF l i) (chainF m j))) (.mul (.int 1) f)).pd] := by
      rw [hw]; exact hz
    have fd := f.deg_le
    have fz := f.sz_le (m := 140)
    have fw : (140 + 40) * 2 ^ f.lev ≤ (140 + 40) * 2 ^ 4 := Nat.mul_le_mul_left _ (Nat.pow_le_pow_right (by decide) hf.1)
    have k5 := ki.2.2.2.2
    have l5 := kj.2.2.2.2
    have all : ∀ x ∈ [(FT.add f (.mul (.mul (.int w) (.int t)) (.mul (chainF l i) (chainF m j)))).pd, (FT.sub f (.mul (.mul (.int w) (.int t)) (.mul (chainF l i) (chainF m j)))).pd, (FT.add (.mul (.mul (.int w) (.int t)) (.mul (chainF l i) (chainF m j))) (.mul (.int 1) f)).pd], ∃ g : FT, x = g.pd ∧ g.ok2 := by
      simp only [List.forall_mem_cons]
      refine ⟨⟨_, rfl, ?_, ?_, ⟨hf.2.2, ⟨st, ht'⟩, ki.2.2.1, kj.2.2.1⟩, ?_, ?_⟩, ⟨_, rfl, ?_, ?_, ⟨hf.2.2, ⟨st, ht'⟩, ki.2.2.1, kj.2.2.1⟩, ?_, ?_⟩, ⟨_, rfl, ?_, ?_, ⟨⟨⟨st, ht'⟩, ki.2.2.1, kj.2.2.1⟩, (by decide : (1 : Int).natAbs < 2 ^ 140), hf.2.2⟩, ?_, ?_⟩, fun x hx => by cases hx⟩
      all_goals simp only [FT.lev, FT.e, FT.deg, FT.sz]; omega
    exact all z hz'
  obtain ⟨g, rfl, hg⟩ := key
  exact q g dk8 hg d8
end DL
namespace DL
open PySem L2 PyProof.Rows
/-! formulas drawn: their integers have at most forty figures -/
def FT.in40 : FT → Prop
  | int i => i.natAbs < 10 ^ 40
  | add a b | sub a b | mul a b => a.in40 ∧ b.in40
  | pow a _ => a.in40
  | _ => True
def FT.leafB (yy : Bool) (f : FT) : Prop := f.lev = 1 ∧ f.e = 1 ∧ f.in40 ∧ (f.hasY = true → yy = true)
theorem lets_leafB {yy : Bool} {ls : List PD} {l : PD} (h : Lets yy ls) (hl : l ∈ ls) : ∃ f : FT, l = f.pd ∧ f.leafB yy := by
  rcases h.2.2 l hl with rfl | ⟨hy, rfl⟩
  · exact ⟨.x, rfl, rfl, rfl, trivial, nofun⟩
  · exact ⟨.y, rfl, rfl, rfl, trivial, fun _ => hy⟩
def S_leafB : FSpec := ⟨fun args Q => ∃ (b : Nat) (dk ls : List PD) (yy : Bool), args = [.ls (some 0) dk, .d (.list ls)] ∧ Dk (b + 8) dk ∧ Lets yy ls ∧ ∀ (f : FT) dk', f.leafB yy → Dk b dk' → Q (.d f.pd) [.ls (some 0) dk']⟩
def SmIB (x : PD) : Prop := ∃ i : Int, x = .int i ∧ i.natAbs < 10 ^ 40
theorem smIB {i : Int} (h : i.natAbs < 10 ^ 40) : SmIB (.int i) := ⟨i, rfl, h⟩
theorem sp_leafB : ∀ args Q, S_leafB.sp args Q → ir_law_leaf_a91b S_draw S_one (endsOf args Q) (rho0 N_law_leaf_a91b args) := by
  rintro args Q ⟨b, dk, ls, yy, rfl, h, hl, q⟩
  have g : (10 : Int) ^ (19 : Int).toNat = 10 ^ 19 := rfl
  refine ⟨powOk (k := 4) (m := 19) (by decide) (by decide) (by decide), rfl, b + 7, dk, _, rfl, h, ⟨by decide, by decide⟩, fun r1 dk1 a0 a1 d1 => ?_⟩
  rw [g] at a1
  refine ⟨powOk (k := 4) (m := 20) (by decide) (by decide) (by decide), mulOk 64 68 (by omega) (by decide), powOk (k := 4) (m := 19) (by decide) (by decide) (by decide), rfl, b + 6, dk1, _, rfl, d1, ⟨by decide, by decide⟩, fun r2 dk2 b0 b1 d2 => ?_⟩
  rw [g] at b1
  have far : (r1 * 10 ^ (20 : Int).toNat + r2).natAbs < 10 ^ 40 := by
    have e : (10 : Int) ^ (20 : Int).toNat = 100000000000000000000 := rfl
    rw [e]
    omega
  obtain ⟨w, hw⟩ : ∃ w, w = r1 * 10 ^ (20 : Int).toNat + r2 := ⟨_, rfl⟩
  rw [← hw] at far
  refine ⟨powOk (k := 4) (m := 40) (by decide) (by decide) (by decide), powOk (k := 4) (m := 40) (by decide) (by decide) (by decide), rfl, b + 5, dk2, _, rfl, d2, ⟨Nat.succ_pos _, by show 4 < 2 ^ 60; decide⟩, fun v dk3 hv d3 => ?_⟩
  rw [← hw] at hv
  have vs : SmIB v := by
    have all : ∀ x ∈ [PyData.int w, .int (-w), .int (10 ^ (40 : Int).toNat - 1), .int (1 - 10 ^ (40 : Int).toNat)], SmIB x := by
      simp only [List.forall_mem_cons]
      exact ⟨smIB far, smIB (by omega), smIB (by decide), smIB (by decide), fun x hx => by cases hx⟩
    exact all v hv
  obtain ⟨vi, rfl, hvi⟩ := vs
  refine ⟨rfl, b + 4, dk3, _, rfl, d3, ⟨by decide, by decide⟩, fun r3 dk4 c0 c1 d4 => ?_⟩
  refine ⟨rfl, b + 3, dk4, _, rfl, d4, ⟨Nat.succ_pos _, by show 10 < 2 ^ 60; decide⟩, fun s dk5 hs d5 => ?_⟩
  have ss : SmIB s := by
    have all : ∀ x ∈ [PyData.int 0, .int 1, .int (-1), .int 2, .int 3, .int (-5), .int 6, .int 12, .int (r3 - 99), .int vi], SmIB x := by
      simp only [List.forall_mem_cons]
      exact ⟨smIB (by decide), smIB (by decide), smIB (by decide), smIB (by decide), smIB (by decide), smIB (by decide), smIB (by decide), smIB (by decide), smIB (by omega), smIB hvi, fun x hx => by cases hx⟩
    exact all s hs
  obtain ⟨si, rfl, hsi⟩ := ss
  refine ⟨rfl, b + 2, dk5, ls, rfl, d5, ⟨hl.1, by have := hl.2.1; omega⟩, fun l1 dk6 hl1 d6 => ?_⟩
  refine ⟨rfl, b + 1, dk6, ls, rfl, d6, ⟨hl.1, by have := hl.2.1; omega⟩, fun l2 dk7 hl2 d7 => ?_⟩
  refine ⟨rfl, b, dk7, _, rfl, d7, ⟨by show 0 < 3; decide, by show 3 < 2 ^ 60; decide⟩, fun z dk8 hz d8 => ?_⟩
  have fin : ∃ f : FT, z = f.pd ∧ f.leafB yy := by
    have all : ∀ x ∈ [PyData.int si, l1, l2], ∃ f : FT, x = f.pd ∧ f.leafB yy := by
      simp only [List.forall_mem_cons]
      exact ⟨⟨.int si, rfl, rfl, rfl, hsi, nofun⟩, lets_leafB hl hl1, lets_leafB hl hl2, fun x hx => by cases hx⟩
    exact all z hz
  obtain ⟨f, rfl, hf⟩ := fin
  exact q f dk8 hf d8
def FT.drawnB (yy : Bool) (room deep : Nat) (f : FT) : Prop := f.lev ≤ deep ∧ f.e ≤ room ∧ f.in40 ∧ (f.hasY = true → yy = true)
def S_formulaB (d : Nat) : FSpec := ⟨fun args Q => ∃ (b : Nat) (dk ls : List PD) (yy : Bool) (room deep : Nat), args = [.ls (some 0) dk, .d (.list ls), .d (.int room), .d (.int deep)] ∧ Dk (b + cst d) dk ∧ Lets yy ls ∧ 1 ≤ room ∧ room ≤ 1000 ∧ 1 ≤ deep ∧ deep ≤ d ∧
  ∀ (f : FT) dk', f.drawnB yy room deep → Dk b dk' → Q (.d f.pd) [.ls (some 0) dk']⟩
theorem S_formulaB0 : ∀ args Q, ¬ (S_formulaB 0).sp args Q := by
  rintro args Q ⟨b, dk, ls, yy, room, deep, _, _, _, _, _, h, h2, _⟩
  omega
theorem sp_formulaB (d : Nat) : ∀ args Q, (S_formulaB (d + 1)).sp args Q → ir_law_formula_6b2b S_draw S_leafB (S_formulaB d) (endsOf args Q) (rho0 N_law_formula_6b2b args) := by
  rintro args Q ⟨b, dk, ls, yy, room, deep, rfl, h, hl, r1, r2, p1, p2, q⟩
  have hc : cst (d + 1) = 2 * cst d + 3 := rfl
  have c8 := cst_ge d
  refine ⟨rfl, b + 2 * cst d + 2, dk, 9, rfl, h.mono (by omega), ⟨by decide, by decide⟩, fun way dk1 w0 w1 d1 => ?_⟩
  have leaf : ∀ {ρ : En} {D : DE}, D.rt = retOk [.ls (some 0) dk, .d (.list ls), .d (.int room), .d (.int deep)] Q → ρ = [some (.ls (some 0) dk1), some (.d (.list ls)), some (.d (.int room)), some (.d (.int deep)), some (.d (.int way)), none, none, none, none] →
      sRet (fCall S_leafB (aCons (.s 0) (aCons (.e (dVar 1)) aNil))) D ρ := by
    rintro ρ D hD rfl
    refine ⟨rfl, b, dk1, ls, yy, rfl, d1.mono (by omega), hl, fun f dk2 hf d2 => ?_⟩
    rw [hD]
    exact q f dk2 ⟨by rw [hf.1]; exact p1, by rw [hf.2.1]; exact r1, hf.2.2.1, hf.2.2.2⟩ d2
  refine ⟨fun _ => ⟨fun _ => leaf rfl rfl, nofun⟩, fun g1 => ⟨fun _ => ⟨fun _ => leaf rfl rfl, nofun⟩, fun g2 => ⟨fun g3 => ⟨rfl, _, rfl, rfl, fun _ => leaf rfl rfl, fun g4 => ?_⟩, fun g3 => ⟨nofun, fun _ => ?_⟩⟩⟩⟩
  all_goals
    have dp : 2 ≤ deep := by
      have : ¬ ((deep : Int) < 2) := of_decide_eq_false g1
      omega
    have wy : 2 ≤ way := by
      have : ¬ (way < 2) := of_decide_eq_false g2
      omega
    have key : 2 ≤ room ∨ (way ≠ 5 ∧ way ≠ 6 ∧ way ≠ 7) := by
      first
        | (left; have : ¬ ((room : Int) < 2) := of_decide_eq_false g3; omega)
        | (right
           have z : (PyData.eqv (.int 5) (.int way) || (PyData.eqv (.int 6) (.int way) || (PyData.eqv (.int 7) (.int way) || false))) = false := g4
           simp [PyData.eqv] at z
           omega)
    clear g1 g2 g3
    obtain ⟨dp', rfl⟩ : ∃ n, deep = n + 1 := ⟨deep - 1, by omega⟩
    have ed : ((dp' + 1 : Nat) : Int) - 1 = (dp' : Nat) := by omega
    refine ⟨fun g5 => ?_, fun g5 => ⟨fun g6 => ?_, fun g6 => ?_⟩⟩
    · have w5 : way < 5 := of_decide_eq_true g5
      -- a sum or a difference
      have word : ∃ x, atI [PyData.str "add", .str "sub", .str "add"] (way - 2) = some x ∧ (x = .str "add" ∨ x = .str "sub") := by
        obtain ⟨x, e1, e2⟩ := atI_some (xs := [PyData.str "add", .str "sub", .str "add"]) (i := way - 2) (by omega) (by show way - 2 < 3; omega)
        refine ⟨x, e1, ?_⟩
        have := List.mem_of_getElem? e2
        simp only [List.mem_cons, List.not_mem_nil, or_false] at this
        rcases this with h | h | h
        · exact .inl h
        · exact .inr h
        · exact .inl h
      obtain ⟨x, ex, hx⟩ := word
      refine ⟨x, ex, rfl, b + cst d, dk1, ls, yy, room, dp', by rw [← ed]; rfl, d1.mono (by omega), hl, r1, r2, by omega, by omega, fun f dk2 hf d2 => ?_⟩
      refine ⟨rfl, b, dk2, ls, yy, room, dp', by rw [← ed]; rfl, d2, hl, r1, r2, by omega, by omega, fun g dk3 hg d3 => ?_⟩
      obtain ⟨f1, f2, f3, f4⟩ := hf
      obtain ⟨g1, g2, g3, g4⟩ := hg
      rcases hx with rfl | rfl
      · exact q (.add f g) dk3 ⟨by simp only [FT.lev]; omega, by simp only [FT.e]; omega, ⟨f3, g3⟩, by simp only [FT.hasY, Bool.or_eq_true]; exact fun h => h.elim f4 g4⟩ d3
      · exact q (.sub f g) dk3 ⟨by simp only [FT.lev]; omega, by simp only [FT.e]; omega, ⟨f3, g3⟩, by simp only [FT.hasY, Bool.or_eq_true]; exact fun h => h.elim f4 g4⟩ d3
    · -- a power
      refine ⟨rfl, b + 2 * cst d + 1, dk1, _, rfl, d1.mono (by omega), ⟨by omega, ?_⟩, fun r dk2 h0 h1 d2 => ?_⟩
      · exact Nat.lt_of_lt_of_le (log2_lt (k := 20) (by omega) (by decide)) (by decide)
      obtain ⟨n, rfl⟩ : ∃ n : Nat, r = n := ⟨r.toNat, by omega⟩
      have em : (if (n : Int) > 1 then (n : Int) else 1) = ((max 1 n : Nat) : Int) := by split <;> omega
      have er : (room : Int) / (if (n : Int) > 1 then (n : Int) else 1) = ((room / max 1 n : Nat) : Int) := by rw [em, Int.natCast_ediv]
      refine ⟨⟨by rw [em]; omega, ?_⟩, rfl, b, dk2, ls, yy, room / max 1 n, dp', by rw [← ed, ← er]; rfl, d2.mono (by omega), hl, ?_, Nat.le_trans (Nat.div_le_self _ _) r2, by omega, by omega, fun f dk3 hf d3 => ?_⟩
      · rw [em, Int.natAbs_natCast]
        exact Nat.lt_of_lt_of_le (log2_lt (i := ((max 1 n : Nat) : Int)) (k := 20) (by omega) (by decide)) (by decide)
      · exact Nat.div_pos (by omega) (by omega)
      · obtain ⟨f1, f2, f3, f4⟩ := hf
        refine q (.pow f n) dk3 ⟨by simp only [FT.lev]; omega, ?_, f3, f4⟩ d3
        simp only [FT.e]
        exact Nat.le_trans (Nat.mul_le_mul_right _ f2) (Nat.div_mul_le_self _ _)
    · -- a product
      have w5 : ¬ way < 5 := of_decide_eq_false g5
      have w8 : ¬ way = 8 := of_decide_eq_false g6
      have rm : 2 ≤ room := by omega
      refine ⟨rfl, b + 2 * cst d + 1, dk1, _, rfl, d1.mono (by omega), ⟨by omega, ?_⟩, fun r dk2 h0 h1 d2 => ?_⟩
      · exact Nat.lt_of_lt_of_le (log2_lt (k := 20) (by omega) (by decide)) (by decide)
      obtain ⟨n, rfl⟩ : ∃ n : Nat, r = n := ⟨r.toNat, by omega⟩
      have e1 : 1 + (n : Int) = ((1 + n : Nat) : Int) := by omega
      have e2 : (room : Int) - (1 + (n : Int)) = ((room - (1 + n) : Nat) : Int) := by omega
      refine ⟨rfl, b + cst d, dk2, ls, yy, 1 + n, dp', by rw [← ed, ← e1]; rfl, d2.mono (by omega), hl, by omega, by omega, by omega, by omega, fun f dk3 hf d3 => ?_⟩
      refine ⟨rfl, b, dk3, ls, yy, room - (1 + n), dp', by rw [← ed, ← e2]; rfl, d3, hl, by omega, by omega, by omega, by omega, fun g dk4 hg d4 => ?_⟩
      obtain ⟨f1, f2, f3, f4⟩ := hf
      obtain ⟨g1, g2, g3, g4⟩ := hg
      exact q (.mul f g) dk4 ⟨by simp only [FT.lev]; omega, by simp only [FT.e]; omega, ⟨f3, g3⟩, by simp only [FT.hasY, Bool.or_eq_true]; exact fun h => h.elim f4 g4⟩ d4
theorem FT.in40.le : ∀ {f : FT}, f.in40 → f.le 140
  | int i, h => Nat.lt_of_lt_of_le h (by decide)
  | x, _ => trivial
  | y, _ => trivial
  | add _ _, h => ⟨in40.le h.1, in40.le h.2⟩
  | sub _ _, h => ⟨in40.le h.1, in40.le h.2⟩
  | mul _ _, h => ⟨in40.le h.1, in40.le h.2⟩
  | pow a _, h => in40.le (f := a) h
theorem FT.drawnB.drawn {yy : Bool} {room deep : Nat} {f : FT} (h : f.drawnB yy room deep) : f.drawn yy 140 room deep := ⟨h.1, h.2.1, h.2.2.1.le, h.2.2.2⟩
end DL
namespace DL
open PySem L2 PyProof.Rows
/-! differences of formulas -/
theorem fall_shift (x : Int) : ∀ n : Nat, fallI (x + 1) (n + 1) = (x + 1) * fallI x n
  | 0 => by simp [fallI]
  | n + 1 => by
    rw [fallI, fall_shift x n, fallI]
    have : ((n + 1 : Nat) : Int) = (n : Int) + 1 := by omega
    rw [this]
    grind
theorem fall_diff (x : Int) (n : Nat) : fallI (x + 1) (n + 1) - fallI x (n + 1) = ((n : Int) + 1) * fallI x n := by
  rw [fall_shift, fallI]
  grind
theorem fall_zero : ∀ n : Nat, fallI 0 (n + 1) = 0
  | 0 => by simp [fallI]
  | n + 1 => by rw [fallI, fall_zero n, Int.zero_mul]
theorem fall_self_pos (n : Nat) : 0 < fallI (n : Nat) n := by have := fallI_fact n 0; simpa using this
theorem fall_over : ∀ {i k : Nat}, i < k → fallI (i : Nat) k = 0
  | i, k + 1, h => by
    rw [fallI]
    by_cases e : i = k
    · subst e; rw [Int.sub_self, Int.mul_zero]
    · rw [fall_over (i := i) (k := k) (by omega), Int.zero_mul]
abbrev F2I := Int → Int → Int
def dX (f : F2I) : F2I := fun x y => f (x + 1) y - f x y
def dY (f : F2I) : F2I := fun x y => f x (y + 1) - f x y
def itX : Nat → F2I → F2I
  | 0, f => f
  | n + 1, f => dX (itX n f)
def itY : Nat → F2I → F2I
  | 0, f => f
  | n + 1, f => dY (itY n f)
def dd (i j : Nat) (f : F2I) : Int := itX i (itY j f) 0 0
def addF (f g : F2I) : F2I := fun x y => f x y + g x y
theorem itX_add (f g : F2I) : ∀ n, itX n (addF f g) = addF (itX n f) (itX n g)
  | 0 => rfl
  | n + 1 => by
    rw [itX, itX_add f g n, itX, itX]
    funext x y
    simp only [dX, addF]
    omega
theorem itY_add (f g : F2I) : ∀ n, itY n (addF f g) = addF (itY n f) (itY n g)
  | 0 => rfl
  | n + 1 => by
    rw [itY, itY_add f g n, itY, itY]
    funext x y
    simp only [dY, addF]
    omega
theorem dd_add (i j : Nat) (f g : F2I) : dd i j (addF f g) = dd i j f + dd i j g := by
  unfold dd
  rw [itY_add, itX_add]
  rfl
def trm (c : Int) (i j : Nat) : F2I := fun x y => c * fallI x i * fallI y j
theorem itX_trm (c : Int) (i j : Nat) : ∀ k, itX k (trm c i j) = trm (c * fallI (i : Nat) k) (i - k) j
  | 0 => by simp [itX, fallI]
  | k + 1 => by
    rw [itX, itX_trm c i j k]
    funext x y
    simp only [dX, trm, fallI]
    by_cases h : k < i
    · obtain ⟨m, rfl⟩ : ∃ m, i = k + 1 + m := ⟨i - k - 1, by omega⟩
      rw [show k + 1 + m - k = m + 1 by omega, show k + 1 + m - (k + 1) = m by omega]
      have d := fall_diff x m
      have e : (((k + 1 + m : Nat) : Int) - (k : Nat)) = (m : Int) + 1 := by omega
      rw [e]
      grind
    · rw [show i - k = 0 by omega, show i - (k + 1) = 0 by omega]
      have z : fallI (i : Nat) k * ((i : Nat) - (k : Nat) : Int) = 0 := by
        by_cases e : i = k
        · subst e; rw [Int.sub_self, Int.mul_zero]
        · rw [fall_over (by omega), Int.zero_mul]
      rw [z]
      simp [fallI]
theorem itY_trm (c : Int) (i j : Nat) : ∀ k, itY k (trm c i j) = trm (c * fallI (j : Nat) k) i (j - k)
  | 0 => by simp [itY, fallI]
  | k + 1 => by
    rw [itY, itY_trm c i j k]
    funext x y
    simp only [dY, trm, fallI]
    by_cases h : k < j
    · obtain ⟨m, rfl⟩ : ∃ m, j = k + 1 + m := ⟨j - k - 1, by omega⟩
      rw [show k + 1 + m - k = m + 1 by omega, show k + 1 + m - (k + 1) = m by omega]
      have d := fall_diff y m
      have e : (((k + 1 + m : Nat) : Int) - (k : Nat)) = (m : Int) + 1 := by omega
      rw [e]
      grind
    · rw [show j - k = 0 by omega, show j - (k + 1) = 0 by omega]
      have z : fallI (j : Nat) k * ((j : Nat) - (k : Nat) : Int) = 0 := by
        by_cases e : j = k
        · subst e; rw [Int.sub_self, Int.mul_zero]
        · rw [fall_over (by omega), Int.zero_mul]
      rw [z]
      simp [fallI]
theorem dd_trm (c : Int) (i j k l : Nat) : dd k l (trm c i j) = if k = i ∧ l = j then c * (fallI (i : Nat) i * fallI (j : Nat) j) else 0 := by
  unfold dd
  rw [itY_trm, itX_trm]
  simp only [trm]
  by_cases h1 : k = i
  · by_cases h2 : l = j
    · subst h1; subst h2
      rw [if_pos ⟨rfl, rfl⟩, Nat.sub_self, Nat.sub_self]
      simp only [fallI]
      grind
    · rw [if_neg fun z => h2 z.2]
      by_cases h3 : l < j
      · obtain ⟨m, e⟩ : ∃ m, j - l = m + 1 := ⟨j - l - 1, by omega⟩
        rw [e, fall_zero, Int.mul_zero]
      · rw [fall_over (i := j) (k := l) (by omega)]
        simp
  · rw [if_neg fun z => h1 z.1]
    by_cases h3 : k < i
    · obtain ⟨m, e⟩ : ∃ m, i - k = m + 1 := ⟨i - k - 1, by omega⟩
      rw [e, fall_zero]
      simp
    · rw [fall_over (i := i) (k := k) (by omega)]
      simp
/-- sums of falling products of a degree of at most d -/
inductive Pol (d : Nat) : F2I → Prop
  | trm (c : Int) (i j : Nat) : i + j ≤ d → Pol d (trm c i j)
  | add {f g : F2I} : Pol d f → Pol d g → Pol d (addF f g)
theorem Pol.mono {d e : Nat} {f : F2I} (h : Pol d f) (he : d ≤ e) : Pol e f := by
  induction h with
  | trm c i j h => exact .trm c i j (by omega)
  | add _ _ a b => exact .add a b
theorem Pol.mulX {d : Nat} {f : F2I} (h : Pol d f) (a : Int) : Pol (d + 1) (fun x y => f x y * (x - a)) := by
  induction h with
  | trm c i j h =>
    have e : (fun x y => DL.trm c i j x y * (x - a)) = addF (DL.trm c (i + 1) j) (DL.trm (c * ((i : Int) - a)) i j) := by
      funext x y
      simp only [DL.trm, addF, fallI]
      grind
    rw [e]
    exact .add (.trm _ _ _ (by omega)) (.trm _ _ _ (by omega))
  | @add f g _ _ p q =>
    have e : (fun x y => addF f g x y * (x - a)) = addF (fun x y => f x y * (x - a)) (fun x y => g x y * (x - a)) := by
      funext x y
      simp only [addF]
      grind
    rw [e]
    exact .add p q
theorem Pol.mulY {d : Nat} {f : F2I} (h : Pol d f) (a : Int) : Pol (d + 1) (fun x y => f x y * (y - a)) := by
  induction h with
  | trm c i j h =>
    have e : (fun x y => DL.trm c i j x y * (y - a)) = addF (DL.trm c i (j + 1)) (DL.trm (c * ((j : Int) - a)) i j) := by
      funext x y
      simp only [DL.trm, addF, fallI]
      grind
    rw [e]
    exact .add (.trm _ _ _ (by omega)) (.trm _ _ _ (by omega))
  | @add f g _ _ p q =>
    have e : (fun x y => addF f g x y * (y - a)) = addF (fun x y => f x y * (y - a)) (fun x y => g x y * (y - a)) := by
      funext x y
      simp only [addF]
      grind
    rw [e]
    exact .add p q
theorem Pol.mulC {d : Nat} {f : F2I} (h : Pol d f) (a : Int) : Pol d (fun x y => f x y * a) := by
  induction h with
  | trm c i j h =>
    have e : (fun x y => DL.trm c i j x y * a) = DL.trm (c * a) i j := by
      funext x y
      simp only [DL.trm]
      grind
    rw [e]
    exact .trm _ _ _ h
  | @add f g _ _ p q =>
    have e : (fun x y => addF f g x y * a) = addF (fun x y => f x y * a) (fun x y => g x y * a) := by
      funext x y
      simp only [addF]
      grind
    rw [e]
    exact .add p q
theorem Pol.mulFX {d : Nat} {f : F2I} (h : Pol d f) : ∀ n : Nat, Pol (d + n) (fun x y => f x y * fallI x n)
  | 0 => by
    have e : (fun x y => f x y * fallI x 0) = f := by funext x y; simp [fallI]
    rw [e]; exact h
  | n + 1 => by
    have e : (fun x y => f x y * fallI x (n + 1)) = fun x y => (f x y * fallI x n) * (x - (n : Nat)) := by funext x y; rw [fallI, Int.mul_assoc]
    rw [e]
    exact (Pol.mulFX h n).mulX _
theorem Pol.mulFY {d : Nat} {f : F2I} (h : Pol d f) : ∀ n : Nat, Pol (d + n) (fun x y => f x y * fallI y n)
  | 0 => by
    have e : (fun x y => f x y * fallI y 0) = f := by funext x y; simp [fallI]
    rw [e]; exact h
  | n + 1 => by
    have e : (fun x y => f x y * fallI y (n + 1)) = fun x y => (f x y * fallI y n) * (y - (n : Nat)) := by funext x y; rw [fallI, Int.mul_assoc]
    rw [e]
    exact (Pol.mulFY h n).mulY _
theorem Pol.mul {d e : Nat} {f g : F2I} (hf : Pol d f) (hg : Pol e g) : Pol (d + e) (fun x y => f x y * g x y) := by
  induction hg with
  | trm c i j h =>
    have q : (fun x y => f x y * DL.trm c i j x y) = fun x y => (f x y * c * fallI x i) * fallI y j := by
      funext x y
      simp only [DL.trm]
      grind
    rw [q]
    exact (((hf.mulC c).mulFX i).mulFY j).mono (by omega)
  | @add g1 g2 _ _ p q =>
    have w : (fun x y => f x y * addF g1 g2 x y) = addF (fun x y => f x y * g1 x y) (fun x y => f x y * g2 x y) := by
      funext x y
      simp only [addF]
      grind
    rw [w]
    exact .add p q
theorem Pol.const (c : Int) : Pol 0 (fun _ _ => c) := by
  have e : (fun _ _ => c : F2I) = DL.trm c 0 0 := by funext x y; simp [DL.trm, fallI]
  rw [e]; exact .trm _ _ _ (by decide)
theorem Pol.pow {d : Nat} {f : F2I} (h : Pol d f) : ∀ n : Nat, Pol (d * n) (fun x y => f x y ^ n)
  | 0 => by
    have e : (fun x y => f x y ^ 0) = fun _ _ => (1 : Int) := by funext x y; rw [Int.pow_zero]
    rw [e, Nat.mul_zero]; exact .const 1
  | n + 1 => by
    have e : (fun x y => f x y ^ (n + 1)) = fun x y => f x y ^ n * f x y := by funext x y; rw [Int.pow_succ]
    rw [e, Nat.mul_succ]
    exact (Pol.pow h n).mul h
theorem FT.pol : ∀ f : FT, Pol f.deg (fun u v => f.val u v)
  | int i => Pol.const i
  | x => by
    have e : (fun u v => FT.x.val u v) = trm 1 1 0 := by funext u v; simp [val, trm, fallI]
    rw [e]; exact .trm _ _ _ (by decide)
  | y => by
    have e : (fun u v => FT.y.val u v) = trm 1 0 1 := by funext u v; simp [val, trm, fallI]
    rw [e]; exact .trm _ _ _ (by decide)
  | add a b => .add (a.pol.mono (Nat.le_max_left _ _)) (b.pol.mono (Nat.le_max_right _ _))
  | sub a b => by
    have e : (fun u v => (sub a b).val u v) = addF (fun u v => a.val u v) (fun u v => b.val u v * (-1)) := by
      funext u v
      simp only [val, addF]
      omega
    rw [e]
    exact .add (a.pol.mono (Nat.le_max_left _ _)) ((b.pol.mulC (-1)).mono (Nat.le_max_right _ _))
  | mul a b => a.pol.mul b.pol
  | pow a n => a.pol.pow n
/-! ### what differences tell -/
def fac2 (i j : Nat) : Int := fallI (i : Nat) i * fallI (j : Nat) j
theorem fac2_pos (i j : Nat) : 0 < fac2 i j := Int.mul_pos (fall_self_pos i) (fall_self_pos j)
theorem Pol.dvd {d : Nat} {f : F2I} (h : Pol d f) (i j : Nat) : fac2 i j ∣ dd i j f := by
  induction h with
  | trm c a b _ =>
    rw [dd_trm]
    split
    · rename_i e; obtain ⟨rfl, rfl⟩ := e; exact ⟨c, by rw [Int.mul_comm]; rfl⟩
    · exact Int.dvd_zero _
  | add _ _ p q => rw [dd_add]; exact Int.dvd_add p q
theorem Pol.zero {d : Nat} {f : F2I} (h : Pol d f) {i j : Nat} (hd : d < i + j) : dd i j f = 0 := by
  induction h with
  | trm c a b hab =>
    rw [dd_trm, if_neg]
    rintro ⟨rfl, rfl⟩
    omega
  | add _ _ p q => rw [dd_add, p, q]; rfl
/-- the row's number -/
def cof (f : F2I) (i j : Nat) : Int := dd i j f / fac2 i j
theorem cof_add {d : Nat} {f g : F2I} (hf : Pol d f) (hg : Pol d g) (i j : Nat) : cof (addF f g) i j = cof f i j + cof g i j := by
  unfold cof
  rw [dd_add, Int.add_ediv_of_dvd_left (hf.dvd i j)]
theorem cof_trm (c : Int) (a b i j : Nat) : cof (trm c a b) i j = if i = a ∧ j = b then c else 0 := by
  unfold cof
  rw [dd_trm]
  split
  · rename_i e; obtain ⟨rfl, rfl⟩ := e
    exact Int.mul_ediv_cancel _ (Int.ne_of_gt (fac2_pos i j))
  · exact Int.zero_ediv _
def sumN : Nat → (Nat → Int) → Int
  | 0, _ => 0
  | n + 1, g => sumN n g + g n
theorem sumN_add (f g : Nat → Int) : ∀ n, sumN n (fun i => f i + g i) = sumN n f + sumN n g
  | 0 => rfl
  | n + 1 => by rw [sumN, sumN_add f g n, sumN, sumN]; omega
theorem sumN_zero {f : Nat → Int} : ∀ {n : Nat}, (∀ i, i < n → f i = 0) → sumN n f = 0
  | 0, _ => rfl
  | n + 1, h => by rw [sumN, sumN_zero fun i hi => h i (by omega), h n (by omega)]; rfl
theorem sumN_congr {f g : Nat → Int} : ∀ {n : Nat}, (∀ i, i < n → f i = g i) → sumN n f = sumN n g
  | 0, _ => rfl
  | n + 1, h => by rw [sumN, sumN, sumN_congr fun i hi => h i (by omega), h n (by omega)]
theorem sumN_one {f : Nat → Int} {k : Nat} : ∀ {n : Nat}, k < n → (∀ i, i ≠ k → f i = 0) → sumN n f = f k
  | n + 1, h, z => by
    rw [sumN]
    by_cases e : k = n
    · subst e; rw [sumN_zero fun i hi => z i (by omega), Int.zero_add]
    · rw [sumN_one (n := n) (by omega) z, z n (by omega), Int.add_zero]
/-- the whole from its rows -/
theorem Pol.whole {d N : Nat} {f : F2I} (h : Pol d f) (hN : d < N) (x y : Int) : f x y = sumN N fun i => sumN N fun j => cof f i j * fallI x i * fallI y j := by
  induction h with
  | trm c a b hab =>
    rw [sumN_one (k := a) (by omega)]
    · rw [sumN_one (k := b) (by omega)]
      · rw [cof_trm, if_pos ⟨rfl, rfl⟩]; rfl
      · intro j hj; rw [cof_trm, if_neg fun z => hj z.2, Int.zero_mul, Int.zero_mul]
    · intro i hi
      exact sumN_zero fun j _ => by rw [cof_trm, if_neg fun z => hi z.1, Int.zero_mul, Int.zero_mul]
  | @add f g hf hg p q =>
    have e : (fun i => sumN N fun j => cof (addF f g) i j * fallI x i * fallI y j) = fun i => (sumN N fun j => cof f i j * fallI x i * fallI y j) + sumN N fun j => cof g i j * fallI x i * fallI y j := by
      funext i
      rw [← sumN_add]
      exact sumN_congr fun j _ => by rw [cof_add hf hg]; grind
    rw [e, sumN_add, ← p, ← q]
    rfl
end DL
namespace DL
open PySem L2 PyProof.Rows
/-! the program's differences, rows -/
theorem fall_fact (n : Nat) : fallI ((n + 1 : Nat) : Int) (n + 1) = ((n + 1 : Nat) : Int) * fallI (n : Nat) n := by
  have := fall_shift (n : Int) n
  rw [show ((n + 1 : Nat) : Int) = (n : Int) + 1 by omega]
  exact this
theorem fact_small {n : Nat} (h : n ≤ 1000) : (fallI (n : Nat) n).natAbs < 2 ^ (11 * n + 1) := fallI_small (by omega)
def S_factorial : FSpec := ⟨fun args Q => ∃ n : Nat, args = [.d (.int n)] ∧ n ≤ 1000 ∧ Q (.d (.int (fallI (n : Nat) n))) []⟩
abbrev N_factorial : List Str := ["number", "found", "k"]
def ir_factorial : TSt :=
  (sSeq (sAsg 1 (fD (dC (.int 1))))
    (sSeq (sFor (iRg (aCons (.e (dC (.int 2))) (aCons (.e (dBin bAdd (.s 0) (.e (dC (.int 1))))) aNil))) (.nm 2) (sAsg 1 (fD (dBin bMulI (.s 1) (.s 2)))))
    (sRetV 1)))
theorem sp_factorial : ∀ args Q, S_factorial.sp args Q → ir_factorial (endsOf args Q) (rho0 N_factorial args) := by
  rintro args Q ⟨n, rfl, hn, q⟩
  refine ⟨⟨by decide, by decide, by omega, by omega⟩, _, rfl, fun i ρ => ∃ t, ρ = [some (.d (.int n)), some (.d (.int (fallI ((i + 1 : Nat) : Int) (i + 1)))), t], ⟨none, rfl⟩, ?_, ?_⟩
  · rintro i y ρ hx ⟨t, rfl⟩
    obtain ⟨rfl, hi⟩ := rngD_get hx
    have hi : i < ((n : Int) + 1 - 2).toNat := hi
    have e : (2 : Int) + (i : Nat) = ((i + 1 + 1 : Nat) : Int) := by omega
    rw [e]
    refine ⟨mulOk (11 * (i + 1) + 1) 20 (fact_small (by omega)) (by omega) (by omega) (by omega) (by decide), ?_⟩
    refine ⟨some (.d (.int ((i + 1 + 1 : Nat) : Int))), ?_⟩
    rw [fall_fact (i + 1), Int.mul_comm]
    rfl
  · rintro ρ ⟨t, rfl⟩
    have el : (rngD 2 ((n : Int) + 1 - 2).toNat).length = n - 1 := by rw [rngD_len]; omega
    rw [el]
    have ev : fallI ((n - 1 + 1 : Nat) : Int) (n - 1 + 1) = fallI (n : Nat) n := by
      cases n with
      | zero => decide
      | succ n => rfl
    rw [ev]
    exact q
abbrev N_neighbours : List Str := ["x", "many", "found", "k"]
def ir_neighbours : TSt :=
  (sSeq (sAsg 2 (fD (dC (.int 1))))
    (sSeq (sFor (iRg (aCons (.s 1) aNil)) (.nm 3) (sAsg 2 (fD (dBin bMulI (.s 2) (.e (dBin bSub (.s 0) (.s 3)))))))
    (sRetV 2)))
theorem sp_neighbours : ∀ args Q, S_falling.sp args Q → ir_neighbours (endsOf args Q) (rho0 N_neighbours args) := sp_law_falling
/-- one row of differences -/
def stepL (ns : List Int) : List Int := List.zipWith (fun a b => b - a) ns ns.tail
def diffsF : Nat → List Int → List Int
  | 0, _ => []
  | _ + 1, [] => []
  | n + 1, a :: r => a :: diffsF n (stepL (a :: r))
def diffs (ns : List Int) : List Int := diffsF ns.length ns
theorem stepL_len (a : Int) (r : List Int) : (stepL (a :: r)).length = r.length := by unfold stepL; simp
theorem cut_tail {α : Type} (xs : List α) : cutD xs (some 1) none = xs.tail := by
  unfold cutD
  have h : HT.sIx xs.length 0 (some 1) = min 1 xs.length := HT.sIx_nat _ _ 1
  rw [h, HT.sIx_none]
  cases xs with
  | nil => rfl
  | cons x r =>
    rw [List.length_cons, Nat.min_eq_left (by omega)]
    simp
theorem at0 {α : Type} (a : α) (r : List α) : atI (a :: r) 0 = some a := by
  obtain ⟨x, h1, h2⟩ := atI_some (xs := a :: r) (i := 0) (Int.le_refl _) (by rw [List.length_cons]; omega)
  have : x = a := by simpa using h2.symm
  rw [h1, this]
def S_differences : FSpec := ⟨fun args Q => ∃ ns : List Int, args = [.d (.list (ns.map .int))] ∧ ns.length ≤ 100000 ∧ Q (.d (.list ((diffs ns).map .int))) []⟩
def lenAt (i : Nat) (ρ : En) : Nat := match ρ[i]? with
  | some (some (.d (.list xs))) => xs.length
  | some (some (.ls _ xs)) => xs.length
  | _ => 0
abbrev N_differences : List Str := ["items", "found", "earlier", "later"]
def ir_differences : TSt :=
  (sSeq (sAsg 1 (fLst aNil))
    (sSeq (sWhile (tVal (dBin cNe (.s 0) (.e (dFz (fLst aNil))))) (sSeq (sApp 1 (dBin bIx (.s 0) (.e (dC (.int 0)))))
    (sAsg 0 (fLc (iZp (aCons (.e (dVar 0)) (aCons (.e (dSl (.s 0) (pSome (.e (dC (.int 1)))) pNone)) aNil))) [2, 3] (.tp [2, 3]) cYes (dBin bSub (.s 3) (.s 2))))))
    (sRetV 1)))
theorem sp_differences : ∀ args Q, S_differences.sp args Q → ir_differences (endsOf args Q) (rho0 N_differences args) := by
  rintro args Q ⟨ns, rfl, hlen, q⟩
  refine ⟨fun ρ => ∃ (ms fs : List Int) (l : Lc), ρ = [some l, some (.ls none (fs.map .int)), none, none] ∧ (l = .d (.list (ms.map .int)) ∨ l = .ls none (ms.map .int)) ∧ fs ++ diffs ms = diffs ns ∧ fs.length + ms.length ≤ 100000, lenAt 0, ⟨ns, [], _, rfl, .inl rfl, rfl, by simpa using hlen⟩, ?_⟩
  rintro ρ ⟨ms, fs, l, rfl, hl, hd, hb⟩
  have shpM : ∀ ms : List Int, shp (.list (ms.map PyData.int)) := fun ms => (Shp.list (n := 0) (Shp.ints ms)).shp
  have fin : ms = [] → Q (.d (.list (fs.map .int))) [] := fun e => by
    subst e
    have : fs = diffs ns := by rw [← hd]; simp [diffs, diffsF]
    rw [this]; exact q
  have tl : ∀ (a : Int) (r : List Int), zipD ((a :: r).map PyData.int) (cutD ((a :: r).map PyData.int) (some 1) none) = List.zipWith (fun a b => PyData.tuple [.int a, .int b]) (a :: r) r := fun a r => by
    rw [cut_tail]
    unfold zipD
    rw [List.map_cons, List.tail_cons, ← List.map_cons, List.zipWith_map]
  have nxt : ∀ (a : Int) (r : List Int), ms = a :: r → (fs ++ [a]) ++ diffs (stepL (a :: r)) = diffs ns ∧ (fs ++ [a]).length + (stepL (a :: r)).length ≤ 100000 := fun a r e => by
    subst e
    refine ⟨?_, ?_⟩
    · rw [← hd]
      unfold diffs
      rw [stepL_len, List.length_cons, diffsF, List.append_assoc]
      rfl
    · rw [stepL_len, List.length_append]
      simp at hb ⊢
      omega
  have pre : ∀ (a : Int) (r : List Int) (i : Nat) (x : PD), (List.zipWith (fun a b => PyData.tuple [.int a, .int b]) (a :: r) r)[i]? = some x → ∃ u v : Int, x = .tuple [.int u, .int v] ∧ (stepL (a :: r))[i]? = some (v - u) := fun a r i x h => by
    rw [List.getElem?_zipWith] at h
    unfold stepL
    rw [List.tail_cons, List.getElem?_zipWith]
    cases e1 : (a :: r)[i]? with
    | none => rw [e1] at h; simp at h
    | some u =>
      cases e2 : r[i]? with
      | none => rw [e1, e2] at h; simp at h
      | some v => rw [e1, e2] at h; simp at h; exact ⟨u, v, h.symm, rfl⟩
  have ln : ∀ (a : Int) (r : List Int), (List.zipWith (fun a b => PyData.tuple [.int a, .int b]) (a :: r) r).length = (stepL (a :: r)).length := fun a r => by rw [stepL_len]; simp
  have emp : ∀ ms : List Int, (!PyData.eqv (.list (ms.map PyData.int)) (.list [])) = true → ∃ a r, ms = a :: r := fun ms h => by
    cases ms with
    | nil => simp [eqv_nil] at h
    | cons a r => exact ⟨a, r, rfl⟩
  have emp2 : ∀ ms : List Int, (!PyData.eqv (.list (ms.map PyData.int)) (.list [])) = false → ms = [] := fun ms h => by
    cases ms with
    | nil => rfl
    | cons a r => simp [eqv_nil] at h
  rcases hl with rfl | rfl
  all_goals
    refine ⟨shpM ms, ⟨rfl, rfl⟩, fun h => ?_, fun h => ?_⟩
    · obtain ⟨a, r, e⟩ := emp ms h
      subst e
      obtain ⟨n1, n2⟩ := nxt a r rfl
      refine ⟨.int a, at0 _ _, ?_, ?_⟩
      · rw [List.length_map, sizeLine_eq]; simp at hb; omega
      refine ⟨⟨rfl, rfl⟩, fun i acc ρ => acc = ((stepL (a :: r)).take i).map .int ∧ ρ = [some (.d (.list ((a :: r).map .int))), some (.ls none ((fs ++ [a]).map .int)), none, none], ?_, fun _ _ _ _ => trivial, ?_, ?_⟩
      · refine ⟨rfl, ?_⟩
        rw [List.map_append]
        rfl
      · rintro i x acc ρ hx ⟨rfl, rfl⟩
        have hx : (zipD ((a :: r).map PyData.int) (cutD ((a :: r).map PyData.int) (some 1) none))[i]? = some x := hx
        rw [tl] at hx
        obtain ⟨u, v, rfl, hs⟩ := pre a r i x hx
        refine ⟨rfl, fun _ => ⟨?_, ?_, rfl⟩, nofun⟩
        · rw [List.length_map, List.length_take, sizeLine_eq]
          have := stepL_len a r
          simp at hb
          omega
        · rw [List.take_add_one, hs, Option.toList_some, List.map_append]
          rfl
      · rintro acc ρ ⟨rfl, rfl⟩
        have el : (Wk.items (zipD ((a :: r).map PyData.int) (cutD ((a :: r).map PyData.int) (some 1) none))).list.length = (stepL (a :: r)).length := by
          show (zipD ((a :: r).map PyData.int) (cutD ((a :: r).map PyData.int) (some 1) none)).length = _
          rw [tl, ln]
        rw [el, List.take_length]
        refine ⟨⟨stepL (a :: r), fs ++ [a], _, rfl, .inr rfl, n1, n2⟩, ?_⟩
        show ((stepL (a :: r)).map PyData.int).length < ((a :: r).map PyData.int).length
        rw [List.length_map, List.length_map, stepL_len]
        exact Nat.lt_succ_self _
    · have := fin (emp2 ms h)
      exact .inr ⟨rfl, this⟩
end DL
namespace DL
open PySem L2 PyProof.Rows
/-! the square of differences, the rows -/
def dN (g : Nat → Int) : Nat → Int := fun k => g (k + 1) - g k
def itN : Nat → (Nat → Int) → Nat → Int
  | 0, g => g
  | n + 1, g => itN n (dN g)
theorem itN_succ (g : Nat → Int) : ∀ n k, itN (n + 1) g k = itN n g (k + 1) - itN n g k
  | 0, k => rfl
  | n + 1, k => by
    show itN (n + 1) (dN g) k = itN n (dN g) (k + 1) - itN n (dN g) k
    exact itN_succ (dN g) n k
theorem stepL_range (g : Nat → Int) (n : Nat) : stepL ((List.range (n + 1)).map g) = (List.range n).map (dN g) := by
  apply List.ext_getElem?
  intro i
  unfold stepL
  rw [List.getElem?_zipWith, List.getElem?_map, List.getElem?_map, List.getElem?_tail, List.getElem?_map]
  by_cases h : i < n
  · rw [List.getElem?_range h, List.getElem?_range (by omega), List.getElem?_range (by omega)]
    rfl
  · rw [List.getElem?_eq_none (l := List.range n) (by simp; omega), List.getElem?_eq_none (l := List.range (n + 1)) (i := i + 1) (by simp; omega)]
    cases (List.range (n + 1))[i]? <;> rfl
theorem diffsF_range : ∀ (n : Nat) (g : Nat → Int), diffsF n ((List.range n).map g) = (List.range n).map fun k => itN k g 0
  | 0, g => rfl
  | n + 1, g => by
    have e : (List.range (n + 1)).map g = g 0 :: ((List.range n).map fun k => g (k + 1)) := by
      rw [List.range_succ_eq_map, List.map_cons, List.map_map]; rfl
    have s : stepL (g 0 :: ((List.range n).map fun k => g (k + 1))) = (List.range n).map (dN g) := by rw [← e, stepL_range]
    rw [e, diffsF, s, diffsF_range n (dN g)]
    rw [List.range_succ_eq_map, List.map_cons, List.map_map]
    rfl
theorem diffs_range (n : Nat) (g : Nat → Int) : diffs ((List.range n).map g) = (List.range n).map fun k => itN k g 0 := by
  unfold diffs
  rw [List.length_map, List.length_range, diffsF_range]
theorem itX_succ' (f : F2I) : ∀ n, itX (n + 1) f = itX n (dX f)
  | 0 => rfl
  | n + 1 => by rw [itX, itX_succ' f n]; rfl
theorem itN_itX (y : Int) : ∀ (n : Nat) (f : F2I) (k : Nat), itN n (fun k => f (k : Nat) y) k = itX n f (k : Nat) y
  | 0, f, k => rfl
  | n + 1, f, k => by
    rw [itX_succ', ← itN_itX y n (dX f) k]
    have e : (dN fun k => f (k : Nat) y) = fun k => dX f (k : Nat) y := by
      funext j
      show f ((j + 1 : Nat) : Int) y - f (j : Nat) y = f ((j : Int) + 1) y - f (j : Nat) y
      rw [show ((j + 1 : Nat) : Int) = (j : Int) + 1 by omega]
    show itN n (dN fun k => f (k : Nat) y) k = _
    rw [e]
theorem itN_itY (x : Int) : ∀ (n : Nat) (f : F2I) (k : Nat), itN n (fun k => f x (k : Nat)) k = itY n f x (k : Nat)
  | 0, f, k => rfl
  | n + 1, f, k => by
    rw [itN_succ, itN_itY x n f, itN_itY x n f]
    show itY n f x ((k + 1 : Nat) : Int) - itY n f x (k : Nat) = itY n f x ((k : Int) + 1) - itY n f x (k : Nat)
    rw [show ((k + 1 : Nat) : Int) = (k : Int) + 1 by omega]
def sqRow (f : F2I) (i : Nat) : PD := .list ((List.range 17).map fun j => .int (dd i j f))
def S_square (d : Nat) : FSpec := ⟨fun args Q => ∃ (f : FT) (m : Nat), args = [.d f.pd] ∧ f.lev ≤ d ∧ f.ok m ∧ 10 ≤ m ∧ Q (.d (.list ((List.range 17).map (sqRow fun u v => f.val u v)))) []⟩
theorem rng17 {lo : Int} {i : Nat} {x : PD} (h : (rngD 0 ((17 : Int) - 0).toNat)[i]? = some x) : x = .int (i : Nat) ∧ i < 17 := by
  obtain ⟨rfl, h2⟩ := rngD_get h
  exact ⟨by rw [Int.zero_add], h2⟩
theorem mapR_succ {α : Type} (g : Nat → α) (i : Nat) : (List.range i).map g ++ [g i] = (List.range (i + 1)).map g := by
  rw [List.range_succ, List.map_append]; rfl
theorem ints_of (g : Nat → Int) (n : Nat) : (List.range n).map (fun i => PyData.int (g i)) = ((List.range n).map g).map .int := by rw [List.map_map]; rfl
theorem atR {α : Type} (g : Nat → α) {n i : Nat} (h : i < n) : atI ((List.range n).map g) (i : Nat) = some (g i) :=
  atI_nat (by rw [List.getElem?_map, List.getElem?_range h]; rfl)
abbrev N_square : List Str := ["formula", "size", "by_y", "columns", "x", "y", "j", "i"]
def ir_square (S_differences : FSpec) (S_worth : FSpec) : TSt :=
  (sSeq (sAsg 1 (fD (dBin bAdd (.e (dC (.int 16))) (.e (dC (.int 1))))))
    (sSeq (sAsg 2 (fLc (iRg (aCons (.s 1) aNil)) [4] (.nm 4) cYes (dFz (fCall S_differences (aCons (.e (dFz (fLc (iRg (aCons (.s 1) aNil)) [5] (.nm 5) cYes (dFz (fCall S_worth (aCons (.e (dVar 0)) (aCons (.e (dVar 4)) (aCons (.e (dVar 5)) aNil)))))))) aNil)))))
    (sSeq (sAsg 3 (fLc (iRg (aCons (.s 1) aNil)) [6] (.nm 6) cYes (dFz (fCall S_differences (aCons (.e (dFz (fLc (iRg (aCons (.s 1) aNil)) [4] (.nm 4) cYes (dBin bIx (.e (dBin bIx (.s 2) (.s 4))) (.s 6))))) aNil)))))
    (sRet (fLc (iRg (aCons (.s 1) aNil)) [7] (.nm 7) cYes (dFz (fLc (iRg (aCons (.s 1) aNil)) [6] (.nm 6) cYes (dBin bIx (.e (dBin bIx (.s 3) (.s 6))) (.s 7)))))))))
theorem sp_square (d : Nat) : ∀ args Q, (S_square d).sp args Q → ir_square S_differences (S_worth d) (endsOf args Q) (rho0 N_square args) := by
  rintro args Q ⟨f, m, rfl, hl, ok, hm, q⟩
  have sm : ∀ i : Nat, i < 17 → ((i : Nat) : Int).natAbs < 2 ^ m := fun i hi => Nat.lt_of_lt_of_le (show _ < 2 ^ 10 by omega) (Nat.pow_le_pow_right (by decide) hm)
  have difY : ∀ i : Nat, diffs ((List.range 17).map fun y => f.val (i : Nat) (y : Nat)) = (List.range 17).map fun j => itY j (fun u v => f.val u v) (i : Nat) 0 := fun i => by
    rw [diffs_range]
    apply List.map_congr_left
    intro j _
    exact itN_itY (i : Nat) j (fun u v => f.val u v) 0
  have difX : ∀ j : Nat, diffs ((List.range 17).map fun x => itY j (fun u v => f.val u v) (x : Nat) 0) = (List.range 17).map fun i => dd i j (fun u v => f.val u v) := fun j => by
    rw [diffs_range]
    apply List.map_congr_left
    intro i _
    exact itN_itX 0 i (itY j fun u v => f.val u v) 0
  have szl : ∀ n : Nat, n < 17 → n < sizeLine := fun n h => by rw [sizeLine_eq]; omega
  refine ⟨by decide, ⟨rfl, rfl⟩, fun i acc ρ => acc = (List.range i).map (fun x => PyData.list ((List.range 17).map fun j => .int (itY j (fun u v => f.val u v) (x : Nat) 0))) ∧ ρ = [some (.d f.pd), some (.d (.int 17)), none, none, none, none, none, none], ⟨rfl, rfl⟩, fun _ _ _ _ => trivial, ?_, ?_⟩
  · rintro i x acc ρ hx ⟨rfl, rfl⟩
    obtain ⟨rfl, hi⟩ := rng17 (lo := 0) hx
    refine ⟨fun _ => ?_, nofun⟩
    refine ⟨by decide, ⟨rfl, rfl⟩, fun j acc ρ => acc = (List.range j).map (fun y => PyData.int (f.val (i : Nat) (y : Nat))) ∧ ρ = [some (.d f.pd), some (.d (.int 17)), none, none, some (.d (.int (i : Nat))), none, none, none], ⟨rfl, rfl⟩, fun _ _ _ _ => trivial, ?_, ?_⟩
    · rintro j y acc ρ hy ⟨rfl, rfl⟩
      obtain ⟨rfl, hj⟩ := rng17 (lo := 0) hy
      refine ⟨fun _ => ⟨rfl, f, _, _, m, rfl, hl, ok, sm i hi, sm j hj, ?_, ?_, rfl⟩, nofun⟩
      · rw [List.length_map, List.length_range]; exact szl j hj
      · exact mapR_succ (fun y => PyData.int (f.val (i : Nat) (y : Nat))) j
    · rintro acc ρ ⟨rfl, rfl⟩
      have el : (Wk.items (rngD 0 ((17 : Int)).toNat)).list.length = 17 := rngD_len
      rw [el]
      refine ⟨rfl, (List.range 17).map fun y => f.val (i : Nat) (y : Nat), by rw [← ints_of]; rfl, by simp, ?_⟩
      refine ⟨?_, ?_, rfl⟩
      · rw [List.length_map, List.length_range]; exact szl i hi
      · show _ ++ [PyData.list ((diffs _).map PyData.int)] = _
        rw [difY, List.map_map]
        exact mapR_succ (fun x : Nat => PyData.list ((List.range 17).map fun j => .int (itY j (fun u v => f.val u v) (x : Nat) 0))) i
  · rintro acc ρ ⟨rfl, rfl⟩
    have el : (Wk.items (rngD 0 ((16 : Int) + 1).toNat)).list.length = 17 := rngD_len
    rw [el]
    obtain ⟨byY, hY⟩ : ∃ l, l = (List.range 17).map (fun x => PyData.list ((List.range 17).map fun j => .int (itY j (fun u v => f.val u v) (x : Nat) 0))) := ⟨_, rfl⟩
    refine ⟨by decide, ⟨rfl, rfl⟩, fun i acc ρ => acc = (List.range i).map (fun j => PyData.list ((List.range 17).map fun i => .int (dd i j (fun u v => f.val u v)))) ∧ ρ = [some (.d f.pd), some (.d (.int 17)), some (.ls none byY), none, none, none, none, none], ⟨rfl, by rw [hY]; rfl⟩, fun _ _ _ _ => trivial, ?_, ?_⟩
    · rintro j x acc ρ hx ⟨rfl, rfl⟩
      obtain ⟨rfl, hj⟩ := rng17 (lo := 0) hx
      refine ⟨fun _ => ?_, nofun⟩
      refine ⟨by decide, ⟨rfl, rfl⟩, fun i acc ρ => acc = (List.range i).map (fun x => PyData.int (itY j (fun u v => f.val u v) (x : Nat) 0)) ∧ ρ = [some (.d f.pd), some (.d (.int 17)), some (.ls none byY), none, none, none, some (.d (.int (j : Nat))), none], ⟨rfl, rfl⟩, fun _ _ _ _ => trivial, ?_, ?_⟩
      · rintro i y acc ρ hy ⟨rfl, rfl⟩
        obtain ⟨rfl, hi⟩ := rng17 (lo := 0) hy
        refine ⟨fun _ => ⟨.list ((List.range 17).map fun j => .int (itY j (fun u v => f.val u v) (i : Nat) 0)), by rw [hY]; exact atR _ hi, _, atR _ hj, ?_, ?_, rfl⟩, nofun⟩
        · rw [List.length_map, List.length_range]; exact szl i hi
        · exact mapR_succ (fun x => PyData.int (itY j (fun u v => f.val u v) (x : Nat) 0)) i
      · rintro acc ρ ⟨rfl, rfl⟩
        have el : (Wk.items (rngD 0 ((17 : Int)).toNat)).list.length = 17 := rngD_len
        rw [el]
        refine ⟨rfl, (List.range 17).map fun x => itY j (fun u v => f.val u v) (x : Nat) 0, by rw [← ints_of]; rfl, by simp, ?_⟩
        refine ⟨?_, ?_, rfl⟩
        · rw [List.length_map, List.length_range]; exact szl j hj
        · show _ ++ [PyData.list ((diffs _).map PyData.int)] = _
          rw [difX, List.map_map]
          exact mapR_succ (fun j : Nat => PyData.list ((List.range 17).map fun i => .int (dd i j (fun u v => f.val u v)))) j
    · rintro acc ρ ⟨rfl, rfl⟩
      have el : (Wk.items (rngD 0 ((17 : Int)).toNat)).list.length = 17 := rngD_len
      rw [el]
      obtain ⟨cl, hC⟩ : ∃ l, l = (List.range 17).map (fun j => PyData.list ((List.range 17).map fun i => .int (dd i j (fun u v => f.val u v)))) := ⟨_, rfl⟩
      refine ⟨by decide, ⟨rfl, rfl⟩, fun i acc ρ => acc = (List.range i).map (sqRow fun u v => f.val u v) ∧ ρ = [some (.d f.pd), some (.d (.int 17)), some (.ls none byY), some (.ls none cl), none, none, none, none], ⟨rfl, by rw [hC]; rfl⟩, fun _ _ _ _ => trivial, ?_, ?_⟩
      · rintro i x acc ρ hx ⟨rfl, rfl⟩
        obtain ⟨rfl, hi⟩ := rng17 (lo := 0) hx
        refine ⟨fun _ => ?_, nofun⟩
        refine ⟨by decide, ⟨rfl, rfl⟩, fun j acc ρ => acc = (List.range j).map (fun j => PyData.int (dd i j (fun u v => f.val u v))) ∧ ρ = [some (.d f.pd), some (.d (.int 17)), some (.ls none byY), some (.ls none cl), none, none, none, some (.d (.int (i : Nat)))], ⟨rfl, rfl⟩, fun _ _ _ _ => trivial, ?_, ?_⟩
        · rintro j y acc ρ hy ⟨rfl, rfl⟩
          obtain ⟨rfl, hj⟩ := rng17 (lo := 0) hy
          refine ⟨fun _ => ⟨.list ((List.range 17).map fun i => .int (dd i j (fun u v => f.val u v))), by rw [hC]; exact atR _ hj, _, atR _ hi, ?_, ?_, rfl⟩, nofun⟩
          · rw [List.length_map, List.length_range]; exact szl j hj
          · exact mapR_succ (fun j => PyData.int (dd i j (fun u v => f.val u v))) j
        · rintro acc ρ ⟨rfl, rfl⟩
          have el : (Wk.items (rngD 0 ((17 : Int)).toNat)).list.length = 17 := rngD_len
          rw [el]
          refine ⟨?_, ?_, rfl⟩
          · rw [List.length_map, List.length_range]; exact szl i hi
          · exact mapR_succ (sqRow fun u v => f.val u v) i
      · rintro acc ρ ⟨rfl, rfl⟩
        have el : (Wk.items (rngD 0 ((17 : Int)).toNat)).list.length = 17 := rngD_len
        rw [el]
        exact .inr ⟨rfl, q⟩
end DL
namespace DL
open PySem L2 PyProof.Rows
/-! rows_of -/
theorem enumD_len (xs : List PD) : (enumD xs).length = xs.length := by unfold enumD; simp
theorem enumD_inv {xs : List PD} {i : Nat} {x : PD} (h : (enumD xs)[i]? = some x) : ∃ d, xs[i]? = some d ∧ x = .tuple [.int (i : Nat), d] := by
  have hi : i < xs.length := by rw [← enumD_len]; exact (List.getElem?_eq_some_iff.mp h).1
  have e := enumD_get (List.getElem?_eq_getElem hi)
  rw [h] at e
  exact ⟨_, List.getElem?_eq_getElem hi, by simpa using e⟩
abbrev T3 := Nat × Nat × Int
def rI (f : F2I) (i n : Nat) : List T3 := (List.range n).flatMap fun j => if dd i j f = 0 then [] else [(i, j, cof f i j)]
def rD (f : F2I) (n : Nat) : List T3 := (List.range n).flatMap fun i => rI f i 17
def rowP (t : T3) : PD := .tuple [.int (t.1 : Nat), .int (t.2.1 : Nat), .int t.2.2]
theorem rI_succ (f : F2I) (i n : Nat) : rI f i (n + 1) = rI f i n ++ (if dd i n f = 0 then [] else [(i, n, cof f i n)]) := by
  unfold rI; rw [List.range_succ, List.flatMap_append]; simp
theorem rD_succ (f : F2I) (n : Nat) : rD f (n + 1) = rD f n ++ rI f n 17 := by
  unfold rD; rw [List.range_succ, List.flatMap_append]; simp
theorem rI_len (f : F2I) (i : Nat) : ∀ n, (rI f i n).length ≤ n
  | 0 => Nat.le_refl _
  | n + 1 => by
    rw [rI_succ, List.length_append]
    have := rI_len f i n
    split <;> simp <;> omega
theorem rD_len (f : F2I) : ∀ n, (rD f n).length ≤ 17 * n
  | 0 => Nat.le_refl _
  | n + 1 => by
    rw [rD_succ, List.length_append]
    have := rD_len f n
    have := rI_len f n 17
    omega
def S_rows (d : Nat) : FSpec := ⟨fun args Q => ∃ (f : FT) (m : Nat), args = [.d f.pd] ∧ f.lev ≤ d ∧ f.ok m ∧ 10 ≤ m ∧ Q (.d (.tuple ((rD (fun u v => f.val u v) 17).map rowP))) []⟩
theorem fac_log {i : Nat} (h : i ≤ 20) : (fallI (i : Nat) i).natAbs < 2 ^ 221 := Nat.lt_of_lt_of_le (fact_small (by omega)) (Nat.pow_le_pow_right (by decide) (by omega))
theorem fac2_nn {i j : Nat} (h : i ≤ 20) (h2 : j ≤ 20) : (fallI (i : Nat) i * fallI (j : Nat) j).natAbs < 2 ^ 442 := two_mul (fac_log h) (fac_log h2) (by decide)
abbrev N_rows_of : List Str := ["formula", "found", "i", "line", "j", "difference"]
def ir_rows_of (S_square : FSpec) (S_factorial : FSpec) : TSt :=
  (sSeq (sAsg 1 (fLst aNil))
    (sSeq (sFor (iEnm (dFz (fCall S_square (aCons (.e (dVar 0)) aNil)))) (.tp [2, 3]) (sFor (iEnm (dVar 3)) (.tp [4, 5]) (sIf (tVal (dBin cNe (.s 5) (.e (dC (.int 0))))) (sApp 1 (dTup (aCons (.e (dVar 2)) (aCons (.e (dVar 4)) (aCons (.e (dBin bFdiv (.s 5) (.e (dBin bMulI (.e (dFz (fCall S_factorial (aCons (.e (dVar 2)) aNil)))) (.e (dFz (fCall S_factorial (aCons (.e (dVar 4)) aNil)))))))) aNil))))) sNext)))
    (sRet (fD (dBi bTuple (aCons (.s 1) aNil))))))
theorem sp_rows_of (d : Nat) : ∀ args Q, (S_rows d).sp args Q → ir_rows_of (S_square d) S_factorial (endsOf args Q) (rho0 N_rows_of args) := by
  rintro args Q ⟨f, m, rfl, hl, ok, hm, q⟩
  obtain ⟨F, hF⟩ : ∃ F : F2I, F = fun u v => f.val u v := ⟨_, rfl⟩
  refine ⟨rfl, f, m, rfl, hl, ok, hm, _, rfl, fun i ρ => ∃ s2 s3 s4 s5, ρ = [some (.d f.pd), some (.ls none ((rD F i).map rowP)), s2, s3, s4, s5], ⟨none, none, none, none, rfl⟩, ?_, ?_⟩
  · rintro i x ρ hx ⟨s2, s3, s4, s5, rfl⟩
    rw [← hF] at hx
    obtain ⟨z, hz, rfl⟩ := enumD_inv hx
    rw [List.getElem?_map] at hz
    obtain ⟨i', hi', rfl⟩ := Option.map_eq_some_iff.mp hz
    have hi : i < 17 := by have := (List.getElem?_eq_some_iff.mp hi').1; simpa using this
    rw [List.getElem?_range hi] at hi'
    cases hi'
    refine ⟨rfl, _, rfl, fun j ρ => ∃ s4 s5, ρ = [some (.d f.pd), some (.ls none ((rD F i ++ rI F i j).map rowP)), some (.d (.int (i : Nat))), some (.d (sqRow F i)), s4, s5], ⟨s4, s5, ?_⟩, ?_, ?_⟩
    · have : rI F i 0 = [] := rfl
      rw [this, List.append_nil]
      rfl
    · rintro j y ρ hy ⟨s4, s5, rfl⟩
      have hy : (enumD ((List.range 17).map fun j => PyData.int (dd i j F)))[j]? = some y := hy
      obtain ⟨w, hw, rfl⟩ := enumD_inv hy
      rw [List.getElem?_map] at hw
      obtain ⟨j', hj', rfl⟩ := Option.map_eq_some_iff.mp hw
      have hj : j < 17 := by have := (List.getElem?_eq_some_iff.mp hj').1; simpa using this
      rw [List.getElem?_range hj] at hj'
      cases hj'
      refine ⟨rfl, fun h => ?_, fun h => ?_⟩
      · have h : (!decide (dd i j F = 0)) = true := h
        have h0 : ¬ dd i j F = 0 := by simpa using h
        refine ⟨rfl, i, rfl, by omega, rfl, j, rfl, by omega, mulOk 221 221 (fac_log (by omega)) (fac_log (by omega)), ⟨fac2_pos i j, Nat.lt_trans (log2_lt (fac2_nn (by omega) (by omega)) (by decide)) (by decide)⟩, ?_, ?_⟩
        · have a := rD_len F i
          have b := rI_len F i j
          rw [List.length_map, List.length_append, sizeLine_eq]; omega
        · refine ⟨some (.d (.int (j : Nat))), some (.d (.int (dd i j F))), ?_⟩
          rw [rI_succ, if_neg h0, ← List.append_assoc, List.map_append (l₂ := [(i, j, cof F i j)])]
          rfl
      · have h : (!decide (dd i j F = 0)) = false := h
        have h0 : dd i j F = 0 := by simpa using h
        refine ⟨some (.d (.int (j : Nat))), some (.d (.int (dd i j F))), ?_⟩
        rw [rI_succ, if_pos h0, List.append_nil]
        rfl
    · rintro ρ ⟨s4, s5, rfl⟩
      have el : (enumD ((List.range 17).map fun j => PyData.int (dd i j F))).length = 17 := by rw [enumD_len]; simp
      refine ⟨some (.d (.int (i : Nat))), some (.d (sqRow F i)), s4, s5, ?_⟩
      rw [el, rD_succ]
  · rintro ρ ⟨s2, s3, s4, s5, rfl⟩
    have el : (enumD ((List.range 17).map (sqRow F))).length = 17 := by rw [enumD_len]; simp
    rw [← hF, el]
    rw [← hF] at q
    exact q
end DL
namespace DL
open PySem L2 PyProof.Rows
/-! totals -/
theorem bndX {g : F2I} {y : Int} {B N : Nat} (h : ∀ x : Nat, x ≤ N → (g (x : Nat) y).natAbs < 2 ^ B) : ∀ (n x : Nat), x + n ≤ N → (itX n g (x : Nat) y).natAbs < 2 ^ (B + n)
  | 0, x, hx => h x hx
  | n + 1, x, hx => by
    have a := bndX h n (x + 1) (by omega)
    have b := bndX h n x (by omega)
    rw [show ((x + 1 : Nat) : Int) = (x : Int) + 1 by omega] at a
    exact (two_add a b (by omega) (by omega)).2
theorem bndY {g : F2I} {x : Int} {B N : Nat} (h : ∀ y : Nat, y ≤ N → (g x (y : Nat)).natAbs < 2 ^ B) : ∀ (n y : Nat), y + n ≤ N → (itY n g x (y : Nat)).natAbs < 2 ^ (B + n)
  | 0, y, hy => h y hy
  | n + 1, y, hy => by
    have a := bndY h n (y + 1) (by omega)
    have b := bndY h n y (by omega)
    rw [show ((y + 1 : Nat) : Int) = (y : Int) + 1 by omega] at a
    exact (two_add a b (by omega) (by omega)).2
theorem dd_small {g : F2I} {B : Nat} (h : ∀ x y : Nat, x ≤ 16 → y ≤ 16 → (g (x : Nat) (y : Nat)).natAbs < 2 ^ B) {i j : Nat} (hi : i ≤ 16) (hj : j ≤ 16) : (dd i j g).natAbs < 2 ^ (B + 32) := by
  have a : ∀ x : Nat, x ≤ 16 → (itY j g (x : Nat) ((0 : Nat) : Int)).natAbs < 2 ^ (B + j) := fun x hx => bndY (fun y hy => h x y hx hy) j 0 (by omega)
  have b := bndX (g := itY j g) (y := ((0 : Nat) : Int)) a i 0 (by omega)
  exact Nat.lt_of_lt_of_le b (Nat.pow_le_pow_right (by decide) (by omega))
theorem cof_mul {d : Nat} {f : F2I} (h : Pol d f) (i j : Nat) : cof f i j * fac2 i j = dd i j f := Int.ediv_mul_cancel (h.dvd i j)
theorem cof_small {d B : Nat} {f : F2I} (h : Pol d f) {i j : Nat} (hb : (dd i j f).natAbs < 2 ^ B) : (cof f i j).natAbs < 2 ^ B := by
  rw [← cof_mul h, Int.natAbs_mul] at hb
  have := fac2_pos i j
  exact Nat.lt_of_le_of_lt (Nat.le_mul_of_pos_right _ (by omega)) hb
theorem FT.dd_small {f : FT} {m : Nat} (ok : f.ok m) (hm : 10 ≤ m) {i j : Nat} (hi : i ≤ 16) (hj : j ≤ 16) : (dd i j fun u v => f.val u v).natAbs < 2 ^ 100032 := by
  have sm : ∀ x : Nat, x ≤ 16 → ((x : Nat) : Int).natAbs < 2 ^ m := fun x hx => Nat.lt_of_lt_of_le (show _ < 2 ^ 10 by omega) (Nat.pow_le_pow_right (by decide) hm)
  have z := DL.dd_small (g := fun u v => f.val u v) (B := (f.lev + m) * f.e) (fun x y hx hy => FT.small (sm x hx) (sm y hy) ok.1) hi hj
  exact Nat.lt_of_lt_of_le z (Nat.pow_le_pow_right (by decide) (by have := ok.2; omega))
theorem rI_mem {f : F2I} {i n : Nat} {t : T3} (h : t ∈ rI f i n) : t.1 = i ∧ t.2.1 < n ∧ t.2.2 = cof f i t.2.1 ∧ dd i t.2.1 f ≠ 0 := by
  unfold rI at h
  obtain ⟨j, hj, ht⟩ := List.mem_flatMap.mp h
  split at ht
  · cases ht
  · rename_i h0
    simp only [List.mem_cons, List.not_mem_nil, or_false] at ht
    subst ht
    exact ⟨rfl, List.mem_range.mp hj, rfl, h0⟩
theorem rD_mem {f : F2I} {n : Nat} {t : T3} (h : t ∈ rD f n) : t.1 < n ∧ t.2.1 < 17 ∧ t.2.2 = cof f t.1 t.2.1 ∧ dd t.1 t.2.1 f ≠ 0 := by
  unfold rD at h
  obtain ⟨i, hi, ht⟩ := List.mem_flatMap.mp h
  obtain ⟨rfl, b, c, d⟩ := rI_mem ht
  exact ⟨List.mem_range.mp hi, b, c, d⟩
theorem rI_sum (f : F2I) (s : Nat → Nat → Int) (i : Nat) : ∀ n, ((rI f i n).map fun t => t.2.2 * s t.1 t.2.1).sum = sumN n fun j => cof f i j * s i j
  | 0 => rfl
  | n + 1 => by
    rw [rI_succ, List.map_append, List.sum_append, rI_sum f s i n, sumN]
    congr 1
    split
    · rename_i h
      have : cof f i n = 0 := by unfold cof; rw [h, Int.zero_ediv]
      rw [this, Int.zero_mul]; rfl
    · simp
theorem rD_sum (f : F2I) (s : Nat → Nat → Int) : ∀ n, ((rD f n).map fun t => t.2.2 * s t.1 t.2.1).sum = sumN n fun i => sumN 17 fun j => cof f i j * s i j
  | 0 => rfl
  | n + 1 => by
    rw [rD_succ, List.map_append, List.sum_append, rD_sum f s n, rI_sum]
    rfl
/-- the sum of falling products -/
def sumF (c k : Nat) : Int := fallI (c : Nat) (k + 1) / ((k : Int) + 1)
theorem sumN_fall (k : Nat) : ∀ n : Nat, ((k : Int) + 1) * sumN n (fun x => fallI (x : Nat) k) = fallI (n : Nat) (k + 1)
  | 0 => by rw [sumN, Int.mul_zero]; exact (fall_zero k).symm
  | n + 1 => by
    rw [sumN, Int.mul_add, sumN_fall k n]
    have := fall_diff (n : Int) k
    rw [show ((n + 1 : Nat) : Int) = (n : Int) + 1 by omega]
    omega
theorem sumF_eq (c k : Nat) : sumF c k = sumN c fun x => fallI (x : Nat) k := by
  unfold sumF
  rw [← sumN_fall k c]
  exact Int.mul_ediv_cancel_left _ (by omega)
theorem sumF_small {c k : Nat} (hc : c < 2 ^ 110) (hk : k ≤ 100) : (sumF c k).natAbs < 2 ^ (111 * (k + 1) + 1) := by
  have a : (fallI (c : Nat) (k + 1)).natAbs < 2 ^ (111 * (k + 1) + 1) := fallI_small (by rw [Int.natAbs_natCast]; omega)
  have e : ((k : Int) + 1) * sumF c k = fallI (c : Nat) (k + 1) := by rw [sumF_eq, sumN_fall]
  rw [← e, Int.natAbs_mul] at a
  exact Nat.lt_of_le_of_lt (Nat.le_mul_of_pos_left _ (by omega)) a
def S_sumof : FSpec := ⟨fun args Q => ∃ c k : Nat, args = [.d (.int c), .d (.int k)] ∧ c < 2 ^ 110 ∧ k ≤ 100 ∧ Q (.d (.int (sumF c k))) []⟩
abbrev N_sum_of : List Str := ["clock", "k"]
def ir_sum_of (S_neighbours : FSpec) : TSt :=
  (sRet (fD (dBin bFdiv (.e (dFz (fCall S_neighbours (aCons (.e (dVar 0)) (aCons (.e (dBin bAdd (.s 1) (.e (dC (.int 1))))) aNil))))) (.e (dBin bAdd (.s 1) (.e (dC (.int 1))))))))
theorem sp_sum_of : ∀ args Q, S_sumof.sp args Q → ir_sum_of S_falling (endsOf args Q) (rho0 N_sum_of args) := by
  rintro args Q ⟨c, k, rfl, hc, hk, q⟩
  have e : ((k : Nat) : Int) + 1 = ((k + 1 : Nat) : Int) := by omega
  refine ⟨rfl, (c : Nat), k + 1, 111, by rw [← e], by rw [Int.natAbs_natCast]; omega, by decide, by omega, by omega, ?_⟩
  exact ⟨⟨by omega, Nat.lt_trans (log2_const (i := ((k : Nat) : Int) + 1) (k := 10) (by omega)) (by decide)⟩, q⟩
/-- all rows together -/
def totF (f : F2I) (c : Nat) : Int := ((rD f 17).map fun t => t.2.2 * sumF c t.1).sum
def S_total (d : Nat) : FSpec := ⟨fun args Q => ∃ (f : FT) (c m : Nat), args = [.d f.pd, .d (.int c)] ∧ f.lev ≤ d ∧ f.ok m ∧ 10 ≤ m ∧ 0 < c ∧ c < 2 ^ 110 ∧ Q (.d (.int (totF (fun u v => f.val u v) c % c))) []⟩
abbrev N_total : List Str := ["formula", "clock", "i", "j", "c"]
def ir_total (S_rows_of : FSpec) (S_sum_of : FSpec) : TSt :=
  (sRet (fD (dBin bMod (.e (dBi bSum (aCons (.e (dFz (fLc (iSeq (dFz (fCall S_rows_of (aCons (.e (dVar 0)) aNil)))) [2, 3, 4] (.tp [2, 3, 4]) cYes (dBin bMulI (.s 4) (.e (dFz (fCall S_sum_of (aCons (.e (dVar 1)) (aCons (.e (dVar 2)) aNil))))))))) aNil))) (.s 1))))
theorem sp_total (d : Nat) : ∀ args Q, (S_total d).sp args Q → ir_total (S_rows d) S_sumof (endsOf args Q) (rho0 N_total args) := by
  rintro args Q ⟨f, c, m, rfl, hl, ok, hm, c0, hc, q⟩
  obtain ⟨F, hF⟩ : ∃ F : F2I, F = fun u v => f.val u v := ⟨_, rfl⟩
  rw [← hF] at q
  have pol : Pol f.deg F := by rw [hF]; exact f.pol
  have sm : ∀ {i j : Nat}, i ≤ 16 → j ≤ 16 → (cof F i j).natAbs < 2 ^ 100032 := fun hi hj => cof_small pol (by rw [hF]; exact FT.dd_small ok hm hi hj)
  refine ⟨rfl, f, m, rfl, hl, ok, hm, ⟨rfl, rfl⟩, fun i acc ρ => acc = ((rD F 17).take i).map (fun t => PyData.int (t.2.2 * sumF c t.1)) ∧ ρ = [some (.d f.pd), some (.d (.int c)), none, none, none], ⟨rfl, rfl⟩, fun _ _ _ _ => trivial, ?_, ?_⟩
  · rintro i x acc ρ hx ⟨rfl, rfl⟩
    rw [← hF] at hx
    have hx : ((rD F 17).map rowP)[i]? = some x := hx
    rw [List.getElem?_map] at hx
    obtain ⟨t, ht, rfl⟩ := Option.map_eq_some_iff.mp hx
    obtain ⟨t1, t2, t3, _⟩ := rD_mem (List.mem_of_getElem? ht)
    refine ⟨rfl, fun _ => ⟨rfl, c, t.1, rfl, hc, by omega, ?_, ?_, ?_, rfl⟩, nofun⟩
    · refine mulOk 100032 (111 * (t.1 + 1) + 1) ?_ (sumF_small hc (by omega)) (by omega) (by decide) (by omega)
      rw [t3]; exact sm (by omega) (by omega)
    · have := rD_len F 17
      rw [List.length_map, List.length_take, sizeLine_eq]; omega
    · rw [List.take_add_one, ht, Option.toList_some, List.map_append]
      rfl
  · rintro acc ρ ⟨rfl, rfl⟩
    have el : (Wk.items ((rD F 17).map rowP)).list.length = (rD F 17).length := List.length_map _
    rw [← hF, el, List.take_length]
    exact ⟨(rD F 17).map (fun t : T3 => t.2.2 * sumF c t.1), by rw [List.map_map]; rfl, by omega, q⟩
/-! .. are the sums over the hours -/
theorem FT.val_noY : ∀ {f : FT}, f.hasY = false → ∀ u v w : Int, f.val u v = f.val u w
  | int _, _, _, _, _ => rfl
  | x, _, _, _, _ => rfl
  | y, h, _, _, _ => by cases h
  | add a b, h, u, v, w => by
    simp only [hasY, Bool.or_eq_false_iff] at h
    simp only [val]; rw [val_noY h.1 u v w, val_noY h.2 u v w]
  | sub a b, h, u, v, w => by
    simp only [hasY, Bool.or_eq_false_iff] at h
    simp only [val]; rw [val_noY h.1 u v w, val_noY h.2 u v w]
  | mul a b, h, u, v, w => by
    simp only [hasY, Bool.or_eq_false_iff] at h
    simp only [val]; rw [val_noY h.1 u v w, val_noY h.2 u v w]
  | pow a n, h, u, v, w => by simp only [val]; rw [val_noY (f := a) h u v w]
theorem itX_zero : ∀ n, itX n (fun _ _ => (0 : Int)) = fun _ _ => 0
  | 0 => rfl
  | n + 1 => by rw [itX, itX_zero n]; funext x y; simp [dX]
theorem itY_lone {f : F2I} (h : ∀ u v w : Int, f u v = f u w) : ∀ n, itY (n + 1) f = fun _ _ => 0
  | 0 => by funext x y; show f x (y + 1) - f x y = 0; rw [h x (y + 1) y]; omega
  | n + 1 => by rw [itY, itY_lone h n]; funext x y; simp [dY]
theorem dd_lone {f : F2I} (h : ∀ u v w : Int, f u v = f u w) (i j : Nat) : dd i (j + 1) f = 0 := by
  unfold dd; rw [itY_lone h, itX_zero]
theorem sumN_mul (a : Int) (g : Nat → Int) : ∀ n, sumN n (fun i => a * g i) = a * sumN n g
  | 0 => by rw [sumN, sumN, Int.mul_zero]
  | n + 1 => by rw [sumN, sumN, sumN_mul a g n, Int.mul_add]
theorem sumN_swap (g : Nat → Nat → Int) (m : Nat) : ∀ n, sumN n (fun i => sumN m fun j => g i j) = sumN m fun j => sumN n fun i => g i j
  | 0 => (sumN_zero fun _ _ => rfl).symm
  | n + 1 => by
    rw [sumN, sumN_swap g m n, ← sumN_add]
    rfl
theorem cof0 {f : F2I} {i j : Nat} (h : dd i j f = 0) : cof f i j = 0 := by unfold cof; rw [h, Int.zero_ediv]
theorem lone_rows {f : F2I} (h : ∀ u v w : Int, f u v = f u w) (s : Nat → Nat → Int) (N M : Nat) (hM : 0 < M) : (sumN N fun i => sumN M fun j => cof f i j * s i j) = sumN N fun i => cof f i 0 * s i 0 := by
  apply sumN_congr
  intro i _
  exact sumN_one (k := 0) hM fun j hj => by
    obtain ⟨k, rfl⟩ : ∃ k, j = k + 1 := ⟨j - 1, by omega⟩
    rw [cof0 (dd_lone h i k), Int.zero_mul]
/-- a lone formula's total -/
theorem totF_lone {f : FT} (hy : f.hasY = false) (hd : f.deg ≤ 16) (c : Nat) : totF (fun u v => f.val u v) c = sumN c fun x => f.val (x : Nat) 0 := by
  have lone : ∀ u v w : Int, (fun u v => f.val u v) u v = (fun u v => f.val u v) u w := fun u v w => FT.val_noY hy u v w
  unfold totF
  rw [rD_sum (fun u v => f.val u v) (fun i _ => sumF c i), lone_rows lone _ _ _ (by decide)]
  have e : ∀ x : Nat, f.val (x : Nat) 0 = sumN 17 fun i => cof (fun u v => f.val u v) i 0 * fallI (x : Nat) i := fun x => by
    have := f.pol.whole (N := 17) (by omega) (x : Nat) 0
    rw [this]
    have z := lone_rows lone (fun i j => fallI (x : Nat) i * fallI 0 j) 17 17 (by decide)
    have q1 : (fun i => sumN 17 fun j => cof (fun u v => f.val u v) i j * fallI (x : Nat) i * fallI 0 j) = fun i => sumN 17 fun j => cof (fun u v => f.val u v) i j * (fallI (x : Nat) i * fallI 0 j) := by
      funext i
      exact sumN_congr fun j _ => Int.mul_assoc ..
    rw [q1, z]
    exact sumN_congr fun i _ => by show _ * (_ * 1) = _; rw [Int.mul_one]
  have q2 : (sumN c fun x => f.val (x : Nat) 0) = sumN c fun x => sumN 17 fun i => cof (fun u v => f.val u v) i 0 * fallI (x : Nat) i := sumN_congr fun x _ => e x
  rw [q2, sumN_swap]
  exact sumN_congr fun i _ => by rw [sumN_mul, sumF_eq]
end DL
namespace DL
open PySem L2 PyProof.Rows
theorem nb {a b : Str} {p : Prop} (e : a = b) (h : (!decide (a = b)) = true) : p := by simp [e] at h
theorem lets_x : Lets false [FT.x.pd] := ⟨by decide, by decide, fun l hl => by simp at hl; exact .inl hl⟩
theorem sumN_dvd {m : Int} {g : Nat → Int} : ∀ {n : Nat}, (∀ i, i < n → m ∣ g i) → m ∣ sumN n g
  | 0, _ => Int.dvd_zero _
  | n + 1, h => Int.dvd_add (sumN_dvd fun i hi => h i (by omega)) (h n (by omega))
theorem fac_dvd : ∀ (k n : Nat), fallI (k : Nat) k ∣ fallI (n : Nat) k
  | 0, n => ⟨1, rfl⟩
  | k + 1, n => by
    rw [fall_fact k, ← sumN_fall k n, show ((k + 1 : Nat) : Int) = (k : Int) + 1 by omega]
    exact Int.mul_dvd_mul_left _ (sumN_dvd fun i _ => fac_dvd k i)
/-- a row's part of the sum -/
theorem part_eq {f : F2I} {d : Nat} (h : Pol d f) (k c : Nat) : dd k 0 f * (fallI (c : Nat) (k + 1) / fallI ((k + 1 : Nat) : Int) (k + 1)) = cof f k 0 * sumF c k := by
  obtain ⟨b, hb⟩ := fac_dvd (k + 1) c
  have p1 := fall_self_pos (k + 1)
  have e0 : fac2 k 0 = fallI (k : Nat) k := by unfold fac2; simp [fallI]
  rw [← cof_mul h k 0, e0]
  unfold sumF
  rw [hb, Int.mul_ediv_cancel_left _ (Int.ne_of_gt p1), fall_fact k, show ((k + 1 : Nat) : Int) = (k : Int) + 1 by omega, Int.mul_assoc ((k : Int) + 1), Int.mul_ediv_cancel_left _ (by omega), Int.mul_assoc]
theorem quo_small {c k : Nat} (hc : c < 2 ^ 110) (hk : k ≤ 16) : (fallI (c : Nat) (k + 1) / fallI ((k + 1 : Nat) : Int) (k + 1)).natAbs < 2 ^ 3000 := by
  obtain ⟨b, hb⟩ := fac_dvd (k + 1) c
  have p1 := fall_self_pos (k + 1)
  have a : (fallI (c : Nat) (k + 1)).natAbs < 2 ^ (111 * (k + 1) + 1) := fallI_small (by rw [Int.natAbs_natCast]; omega)
  rw [hb, Int.mul_ediv_cancel_left _ (Int.ne_of_gt p1)]
  rw [hb, Int.natAbs_mul] at a
  exact Nat.lt_of_lt_of_le (Nat.lt_of_le_of_lt (Nat.le_mul_of_pos_left _ (by omega)) a) (Nat.pow_le_pow_right (by decide) (by omega))
def S_lawsum (d : Nat) : FSpec := ⟨fun args Q => ∃ (f : FT) (c m : Nat), args = [.d f.pd, .d (.int c)] ∧ f.lev ≤ d ∧ f.ok m ∧ 10 ≤ m ∧ f.hasY = false ∧ f.deg ≤ 16 ∧ 0 < c ∧ c < 2 ^ 110 ∧ Q (.d (.int (totF (fun u v => f.val u v) c))) []⟩
theorem totF_parts {f : FT} (hy : f.hasY = false) (c : Nat) : totF (fun u v => f.val u v) c = sumN 17 fun k => dd k 0 (fun u v => f.val u v) * (fallI (c : Nat) (k + 1) / fallI ((k + 1 : Nat) : Int) (k + 1)) := by
  have lone : ∀ u v w : Int, (fun u v => f.val u v) u v = (fun u v => f.val u v) u w := fun u v w => FT.val_noY hy u v w
  unfold totF
  rw [rD_sum (fun u v => f.val u v) (fun i _ => sumF c i), lone_rows lone _ _ _ (by decide)]
  exact sumN_congr fun k _ => (part_eq f.pol k c).symm
theorem itN_dd (f : FT) (k : Nat) : itN k (fun x => f.val (x : Nat) 0) 0 = dd k 0 (fun u v => f.val u v) := itN_itX 0 k (fun u v => f.val u v) 0
abbrev N_law_sum_aa3b : List Str := ["formula", "clock", "row", "found", "k", "x", "at"]
def ir_law_sum_aa3b (S_law_worth_98b9 : FSpec) (S_law_falling_d92b : FSpec) : TSt :=
  (sSeq (sUnp (.tp [2, 3]) (dTup (aCons (.e (dFz (fLc (iRg (aCons (.e (dC (.int 17))) aNil)) [5] (.nm 5) cYes (dFz (fCall S_law_worth_98b9 (aCons (.e (dVar 0)) (aCons (.e (dVar 5)) (aCons (.e (dC (.int 0))) aNil)))))))) (aCons (.e (dC (.int 0))) aNil))))
    (sSeq (sFor (iRg (aCons (.e (dC (.int 17))) aNil)) (.nm 4) (sSeq (sAsg 3 (fD (dBin bAdd (.s 3) (.e (dBin bMulI (.e (dBin bIx (.s 2) (.e (dC (.int 0))))) (.e (dBin bFdiv (.e (dFz (fCall S_law_falling_d92b (aCons (.e (dVar 1)) (aCons (.e (dBin bAdd (.s 4) (.e (dC (.int 1))))) aNil))))) (.e (dFz (fCall S_law_falling_d92b (aCons (.e (dBin bAdd (.s 4) (.e (dC (.int 1))))) (aCons (.e (dBin bAdd (.s 4) (.e (dC (.int 1))))) aNil))))))))))))
    (sAsg 2 (fLc (iRg (aCons (.e (dBin bSub (.e (dBi bLen (aCons (.s 2) aNil))) (.e (dC (.int 1))))) aNil)) [6] (.nm 6) cYes (dBin bSub (.e (dBin bIx (.s 2) (.e (dBin bAdd (.s 6) (.e (dC (.int 1))))))) (.e (dBin bIx (.s 2) (.s 6))))))))
    (sRetV 3)))
theorem sp_lawsum (d : Nat) : ∀ args Q, (S_lawsum d).sp args Q → ir_law_sum_aa3b (S_worth d) S_falling (endsOf args Q) (rho0 N_law_sum_aa3b args) := by
  rintro args Q ⟨f, c, m, rfl, hl, ok, hm, hy, hdg, c0, hc, q⟩
  have sm : ∀ i : Nat, i < 17 → ((i : Nat) : Int).natAbs < 2 ^ m := fun i hi => Nat.lt_of_lt_of_le (show _ < 2 ^ 10 by omega) (Nat.pow_le_pow_right (by decide) hm)
  obtain ⟨g, hg⟩ : ∃ g : Nat → Int, g = fun x : Nat => f.val (x : Nat) 0 := ⟨_, rfl⟩
  refine ⟨by decide, ⟨rfl, rfl⟩, fun i acc ρ => acc = (List.range i).map (fun x => PyData.int (g x)) ∧ ρ = [some (.d f.pd), some (.d (.int c)), none, none, none, none, none], ⟨rfl, rfl⟩, fun _ _ _ _ => trivial, ?_, ?_⟩
  · rintro i x acc ρ hx ⟨rfl, rfl⟩
    obtain ⟨rfl, hi⟩ := rngD_get hx
    have hi : i < 17 := hi
    have e0 : (0 : Int) + (i : Nat) = (i : Nat) := by omega
    rw [e0]
    refine ⟨fun _ => ⟨rfl, f, _, 0, m, rfl, hl, ok, sm i hi, Nat.pow_pos (by decide), ?_, ?_, rfl⟩, nofun⟩
    · rw [List.length_map, List.length_range, sizeLine_eq]; omega
    · rw [← mapR_succ, hg]
      rfl
  · rintro acc ρ ⟨rfl, rfl⟩
    have el : (Wk.items (rngD 0 ((17 : Int)).toNat)).list.length = 17 := rngD_len
    rw [el]
    refine ⟨rfl, by decide, _, rfl, fun k ρ => ∃ (l : Lc) (t : Option Lc), ρ = [some (.d f.pd), some (.d (.int c)), some l, some (.d (.int (sumN k fun k => itN k g 0 * (fallI (c : Nat) (k + 1) / fallI ((k + 1 : Nat) : Int) (k + 1))))), t, none, none] ∧ (l = .d (.list ((List.range (17 - k)).map fun i => .int (itN k g i))) ∨ l = .ls none ((List.range (17 - k)).map fun i => .int (itN k g i))), ⟨_, none, rfl, .inl rfl⟩, ?_, ?_⟩
    · rintro k x ρ hx ⟨l, t, rfl, hll⟩
      obtain ⟨rfl, hk⟩ := rngD_get hx
      have hk : k < 17 := hk
      have e0 : (0 : Int) + (k : Nat) = (k : Nat) := by omega
      have e1 : ((k : Nat) : Int) + 1 = ((k + 1 : Nat) : Int) := by omega
      rw [e0]
      have dsm : (itN k g 0).natAbs < 2 ^ 100032 := by rw [hg, itN_dd]; exact FT.dd_small ok hm (by omega) (by decide)
      have at0' : atI ((List.range (17 - k)).map fun i => PyData.int (itN k g i)) 0 = some (.int (itN k g 0)) := atR (fun i => PyData.int (itN k g i)) (show 0 < 17 - k by omega)
      have len : ((List.range (17 - k)).map fun i => PyData.int (itN k g i)).length = 17 - k := by simp
      rcases hll with rfl | rfl
      all_goals
        refine ⟨_, at0', rfl, (c : Nat), k + 1, 111, by rw [← e1], by rw [Int.natAbs_natCast]; omega, by decide, by omega, by omega, rfl, ((k + 1 : Nat) : Int), k + 1, 10, by rw [← e1], by rw [Int.natAbs_natCast]; omega, by decide, by omega, by omega, ⟨fall_self_pos (k + 1), Nat.lt_trans (log2_lt (fac_log (by omega)) (by decide)) (by decide)⟩, mulOk 100032 3000 dsm (quo_small hc (by omega)), ?_⟩
        have tn : ((((List.range (17 - k)).map fun i => PyData.int (itN k g i)).length : Nat) : Int) - 1 = ((16 - k : Nat) : Int) := by rw [len]; omega
        refine ⟨by rw [len]; omega, ⟨rfl, rfl⟩, fun i acc ρ => acc = (List.range i).map (fun i => PyData.int (itN (k + 1) g i)) ∧ ρ = _, ⟨rfl, rfl⟩, fun _ _ _ _ => trivial, ?_, ?_⟩
        · rintro i y acc ρ hy ⟨rfl, rfl⟩
          obtain ⟨rfl, hi⟩ := rngD_get hy
          have hi : i < (((((List.range (17 - k)).map fun i => PyData.int (itN k g i)).length : Nat) : Int) - 1).toNat := hi
          rw [tn] at hi
          have hi : i < 16 - k := hi
          have f0 : (0 : Int) + (i : Nat) = (i : Nat) := by omega
          rw [f0]
          refine ⟨fun _ => ⟨.int (itN k g (i + 1)), atR (fun i => PyData.int (itN k g i)) (show i + 1 < 17 - k by omega), .int (itN k g i), atR (fun i => PyData.int (itN k g i)) (show i < 17 - k by omega), ?_, ?_, rfl⟩, nofun⟩
          · rw [List.length_map, List.length_range, sizeLine_eq]; omega
          · rw [← mapR_succ, itN_succ]
        · rintro acc ρ ⟨rfl, rfl⟩
          have el2 : (Wk.items (rngD 0 (((((List.range (17 - k)).map fun i => PyData.int (itN k g i)).length : Nat) : Int) - 1).toNat)).list.length = 17 - (k + 1) := by
            rw [tn]
            show (rngD 0 ((16 - k : Nat) : Int).toNat).length = _
            rw [rngD_len]; omega
          rw [el2]
          exact ⟨_, _, rfl, .inr rfl⟩
    · rintro ρ ⟨l, t, rfl, hll⟩
      have el : (rngD 0 ((17 : Int)).toNat).length = 17 := rngD_len
      rw [el]
      have e : (sumN 17 fun k => itN k g 0 * (fallI (c : Nat) (k + 1) / fallI ((k + 1 : Nat) : Int) (k + 1))) = totF (fun u v => f.val u v) c := by
        rw [totF_parts hy, hg]
        exact sumN_congr fun k _ => by rw [itN_dd]
      rw [e]
      exact q
end DL
namespace DL
open PySem L2 PyProof.Rows
/-! totals over both letters -/
abbrev N_law_differences_931d : List Str := ["row", "found", "at"]
def ir_law_differences_931d : TSt :=
  (sSeq (sAsg 1 (fLst aNil))
    (sSeq (sWhile (tVal (dBin cNe (.s 0) (.e (dFz (fLst aNil))))) (sSeq (sApp 1 (dBin bIx (.s 0) (.e (dC (.int 0)))))
    (sAsg 0 (fLc (iRg (aCons (.e (dBin bSub (.e (dBi bLen (aCons (.s 0) aNil))) (.e (dC (.int 1))))) aNil)) [2] (.nm 2) cYes (dBin bSub (.e (dBin bIx (.s 0) (.e (dBin bAdd (.s 2) (.e (dC (.int 1))))))) (.e (dBin bIx (.s 0) (.s 2))))))))
    (sRetV 1)))
theorem sp_ldiff : ∀ args Q, S_differences.sp args Q → ir_law_differences_931d (endsOf args Q) (rho0 N_law_differences_931d args) := by
  rintro args Q ⟨ns, rfl, hlen, q⟩
  refine ⟨fun ρ => ∃ (ms fs : List Int) (l : Lc), ρ = [some l, some (.ls none (fs.map .int)), none] ∧ (l = .d (.list (ms.map .int)) ∨ l = .ls none (ms.map .int)) ∧ fs ++ diffs ms = diffs ns ∧ fs.length + ms.length ≤ 100000, lenAt 0, ⟨ns, [], _, rfl, .inl rfl, rfl, by simpa using hlen⟩, ?_⟩
  rintro ρ ⟨ms, fs, l, rfl, hl, hd, hb⟩
  have shpM : ∀ ms : List Int, shp (.list (ms.map PyData.int)) := fun ms => (Shp.list (n := 0) (Shp.ints ms)).shp
  have fin : ms = [] → Q (.d (.list (fs.map .int))) [] := fun e => by
    subst e
    have : fs = diffs ns := by rw [← hd]; simp [diffs, diffsF]
    rw [this]; exact q
  have nxt : ∀ (a : Int) (r : List Int), ms = a :: r → (fs ++ [a]) ++ diffs (stepL (a :: r)) = diffs ns ∧ (fs ++ [a]).length + (stepL (a :: r)).length ≤ 100000 := fun a r e => by
    subst e
    refine ⟨?_, ?_⟩
    · rw [← hd]
      unfold diffs
      rw [stepL_len, List.length_cons, diffsF, List.append_assoc]
      rfl
    · rw [stepL_len, List.length_append]
      simp at hb ⊢
      omega
  have pre : ∀ (a : Int) (r : List Int) (i : Nat), i < r.length → ∃ u v : Int, atI ((a :: r).map PyData.int) ((i : Nat) : Int) = some (.int u) ∧ atI ((a :: r).map PyData.int) ((i + 1 : Nat) : Int) = some (.int v) ∧ (stepL (a :: r))[i]? = some (v - u) := fun a r i h => by
    have h2 : i < (a :: r).length := by rw [List.length_cons]; omega
    have e1 : (a :: r)[i]? = some ((a :: r)[i]) := List.getElem?_eq_getElem h2
    have e2 : r[i]? = some (r[i]) := List.getElem?_eq_getElem h
    refine ⟨(a :: r)[i], r[i], atI_nat (by rw [List.getElem?_map, e1]; rfl), atI_nat (by rw [List.getElem?_map, List.getElem?_cons_succ, e2]; rfl), ?_⟩
    unfold stepL
    rw [List.tail_cons, List.getElem?_zipWith, e1, e2]
  have emp : ∀ ms : List Int, (!PyData.eqv (.list (ms.map PyData.int)) (.list [])) = true → ∃ a r, ms = a :: r := fun ms h => by
    cases ms with
    | nil => simp [eqv_nil] at h
    | cons a r => exact ⟨a, r, rfl⟩
  have emp2 : ∀ ms : List Int, (!PyData.eqv (.list (ms.map PyData.int)) (.list [])) = false → ms = [] := fun ms h => by
    cases ms with
    | nil => rfl
    | cons a r => simp [eqv_nil] at h
  rcases hl with rfl | rfl
  all_goals
    refine ⟨shpM ms, ⟨rfl, rfl⟩, fun h => ?_, fun h => ?_⟩
    · obtain ⟨a, r, e⟩ := emp ms h
      subst e
      obtain ⟨n1, n2⟩ := nxt a r rfl
      refine ⟨.int a, at0 _ _, ?_, ?_⟩
      · rw [List.length_map, sizeLine_eq]; simp at hb; omega
      have tn : ((((a :: r).map PyData.int).length : Nat) : Int) - 1 = ((r.length : Nat) : Int) := by rw [List.length_map, List.length_cons]; omega
      have rl : r.length ≤ 100000 := by simp at hb; omega
      refine ⟨by rw [tn]; omega, ⟨rfl, rfl⟩, fun i acc ρ => acc = ((stepL (a :: r)).take i).map .int ∧ ρ = _, ⟨rfl, rfl⟩, fun _ _ _ _ => trivial, ?_, ?_⟩
      · rintro i x acc ρ hx ⟨rfl, rfl⟩
        obtain ⟨rfl, hi⟩ := rngD_get hx
        have hi : i < (((((a :: r).map PyData.int).length : Nat) : Int) - 1).toNat := hi
        rw [tn] at hi
        have hi : i < r.length := hi
        obtain ⟨u, v, g1, g2, hs⟩ := pre a r i hi
        have f0 : (0 : Int) + (i : Nat) = (i : Nat) := by omega
        rw [f0]
        refine ⟨fun _ => ⟨.int v, g2, .int u, g1, ?_, ?_, rfl⟩, nofun⟩
        · rw [List.length_map, List.length_take, sizeLine_eq]; omega
        · rw [List.take_add_one, hs, Option.toList_some, List.map_append]
          rfl
      · rintro acc ρ ⟨rfl, rfl⟩
        have el : (Wk.items (rngD 0 (((((a :: r).map PyData.int).length : Nat) : Int) - 1).toNat)).list.length = (stepL (a :: r)).length := by
          rw [tn, stepL_len]
          show (rngD 0 ((r.length : Nat) : Int).toNat).length = _
          rw [rngD_len]; omega
        rw [el, List.take_length]
        refine ⟨⟨stepL (a :: r), fs ++ [a], _, by rw [List.map_append]; rfl, .inr rfl, n1, n2⟩, ?_⟩
        show ((stepL (a :: r)).map PyData.int).length < ((a :: r).map PyData.int).length
        rw [List.length_map, List.length_map, stepL_len]
        exact Nat.lt_succ_self _
    · have := fin (emp2 ms h)
      exact .inr ⟨rfl, this⟩
/-- a row's sums, by the law -/
def tms (c k : Nat) : Int := fallI (c : Nat) (k + 1) / fallI ((k + 1 : Nat) : Int) (k + 1)
theorem tms_eq (c k : Nat) : fallI (k : Nat) k * tms c k = sumF c k := by
  obtain ⟨b, hb⟩ := fac_dvd (k + 1) c
  have p1 := fall_self_pos (k + 1)
  unfold tms sumF
  rw [hb, Int.mul_ediv_cancel_left _ (Int.ne_of_gt p1), fall_fact k, show ((k + 1 : Nat) : Int) = (k : Int) + 1 by omega, Int.mul_assoc ((k : Int) + 1), Int.mul_ediv_cancel_left _ (by omega)]
def S_times : FSpec := ⟨fun args Q => ∃ c k : Nat, args = [.d (.int c), .d (.int k)] ∧ c < 2 ^ 110 ∧ k ≤ 16 ∧ Q (.d (.int (tms c k))) []⟩
abbrev N_law_times_1ebf : List Str := ["clock", "k"]
def ir_law_times_1ebf (S_law_falling_d92b : FSpec) : TSt :=
  (sRet (fD (dBin bFdiv (.e (dFz (fCall S_law_falling_d92b (aCons (.e (dVar 0)) (aCons (.e (dBin bAdd (.s 1) (.e (dC (.int 1))))) aNil))))) (.e (dFz (fCall S_law_falling_d92b (aCons (.e (dBin bAdd (.s 1) (.e (dC (.int 1))))) (aCons (.e (dBin bAdd (.s 1) (.e (dC (.int 1))))) aNil))))))))
theorem sp_times : ∀ args Q, S_times.sp args Q → ir_law_times_1ebf S_falling (endsOf args Q) (rho0 N_law_times_1ebf args) := by
  rintro args Q ⟨c, k, rfl, hc, hk, q⟩
  have e1 : ((k : Nat) : Int) + 1 = ((k + 1 : Nat) : Int) := by omega
  exact ⟨rfl, (c : Nat), k + 1, 111, by rw [← e1], by rw [Int.natAbs_natCast]; omega, by decide, by omega, by omega, rfl, ((k + 1 : Nat) : Int), k + 1, 10, by rw [← e1], by rw [Int.natAbs_natCast]; omega, by decide, by omega, by omega, ⟨fall_self_pos (k + 1), Nat.lt_trans (log2_lt (fac_log (by omega)) (by decide)) (by decide)⟩, q⟩
def totB (f : F2I) (c : Nat) : Int := ((rD f 17).map fun t => t.2.2 * sumF c t.1 * sumF c t.2.1).sum
theorem totB_rows (f : F2I) (c : Nat) : totB f c = sumN 17 fun i => sumN 17 fun j => cof f i j * (sumF c i * sumF c j) := by
  rw [← rD_sum f (fun i j => sumF c i * sumF c j)]
  unfold totB
  congr 1
  exact List.map_congr_left fun t _ => Int.mul_assoc ..
/-- .. is the sum over all pairs of hours -/
theorem totB_sum {f : FT} (hd : f.deg ≤ 16) (c : Nat) : totB (fun u v => f.val u v) c = sumN c fun x => sumN c fun y => f.val (x : Nat) (y : Nat) := by
  obtain ⟨F, hF⟩ : ∃ F : F2I, F = fun u v => f.val u v := ⟨_, rfl⟩
  have pol : Pol f.deg F := by rw [hF]; exact f.pol
  have w : ∀ x y : Int, F x y = sumN 17 fun i => sumN 17 fun j => cof F i j * fallI x i * fallI y j := fun x y => pol.whole (by omega) x y
  have in1 : ∀ x : Int, (sumN c fun y => F x (y : Nat)) = sumN 17 fun i => sumN 17 fun j => fallI x i * (cof F i j * sumF c j) := fun x => by
    rw [sumN_congr fun y _ => w x (y : Nat), sumN_swap]
    refine sumN_congr fun i _ => ?_
    rw [sumN_swap]
    refine sumN_congr fun j _ => ?_
    rw [sumN_mul, ← sumF_eq]
    grind
  rw [← hF, totB_rows]
  symm
  show (sumN c fun x => sumN c fun y => (fun u v => f.val u v) (x : Nat) (y : Nat)) = _
  rw [← hF, sumN_congr (n := c) fun x _ => in1 (x : Nat), sumN_swap]
  refine sumN_congr fun i _ => ?_
  rw [sumN_swap]
  refine sumN_congr fun j _ => ?_
  have e : (fun x : Nat => fallI (x : Nat) i * (cof F i j * sumF c j)) = fun x : Nat => (cof F i j * sumF c j) * fallI (x : Nat) i := funext fun x => Int.mul_comm ..
  rw [e, sumN_mul, ← sumF_eq]
  grind
theorem totB_parts {f : F2I} {d : Nat} (pol : Pol d f) (c : Nat) : totB f c = sumN 17 fun j => sumN 17 fun i => dd i j f * tms c i * tms c j := by
  rw [totB_rows, sumN_swap]
  refine sumN_congr fun j _ => sumN_congr fun i _ => ?_
  rw [← tms_eq, ← tms_eq, ← cof_mul pol i j]
  unfold fac2
  grind
def S_both (d : Nat) : FSpec := ⟨fun args Q => ∃ (f : FT) (c m : Nat), args = [.d f.pd, .d (.int c)] ∧ f.lev ≤ d ∧ f.ok m ∧ 10 ≤ m ∧ 0 < c ∧ c < 2 ^ 110 ∧ Q (.d (.int (totB (fun u v => f.val u v) c % c))) []⟩
abbrev N_total_both : List Str := ["formula", "clock", "i", "j", "c"]
def ir_total_both (S_rows_of : FSpec) (S_sum_of : FSpec) : TSt :=
  (sRet (fD (dBin bMod (.e (dBi bSum (aCons (.e (dFz (fLc (iSeq (dFz (fCall S_rows_of (aCons (.e (dVar 0)) aNil)))) [2, 3, 4] (.tp [2, 3, 4]) cYes (dBin bMulI (.e (dBin bMulI (.s 4) (.e (dFz (fCall S_sum_of (aCons (.e (dVar 1)) (aCons (.e (dVar 2)) aNil))))))) (.e (dFz (fCall S_sum_of (aCons (.e (dVar 1)) (aCons (.e (dVar 3)) aNil))))))))) aNil))) (.s 1))))
theorem sp_total_both (d : Nat) : ∀ args Q, (S_both d).sp args Q → ir_total_both (S_rows d) S_sumof (endsOf args Q) (rho0 N_total_both args) := by
  rintro args Q ⟨f, c, m, rfl, hl, ok, hm, c0, hc, q⟩
  obtain ⟨F, hF⟩ : ∃ F : F2I, F = fun u v => f.val u v := ⟨_, rfl⟩
  rw [← hF] at q
  have pol : Pol f.deg F := by rw [hF]; exact f.pol
  have sm : ∀ {i j : Nat}, i ≤ 16 → j ≤ 16 → (cof F i j).natAbs < 2 ^ 100032 := fun hi hj => cof_small pol (by rw [hF]; exact FT.dd_small ok hm hi hj)
  have s2 : ∀ {k : Nat}, k ≤ 16 → (sumF c k).natAbs < 2 ^ 3000 := fun hk => Nat.lt_of_lt_of_le (sumF_small hc (by omega)) (Nat.pow_le_pow_right (by decide) (by omega))
  refine ⟨rfl, f, m, rfl, hl, ok, hm, ⟨rfl, rfl⟩, fun i acc ρ => acc = ((rD F 17).take i).map (fun t => PyData.int (t.2.2 * sumF c t.1 * sumF c t.2.1)) ∧ ρ = [some (.d f.pd), some (.d (.int c)), none, none, none], ⟨rfl, rfl⟩, fun _ _ _ _ => trivial, ?_, ?_⟩
  · rintro i x acc ρ hx ⟨rfl, rfl⟩
    rw [← hF] at hx
    have hx : ((rD F 17).map rowP)[i]? = some x := hx
    rw [List.getElem?_map] at hx
    obtain ⟨t, ht, rfl⟩ := Option.map_eq_some_iff.mp hx
    obtain ⟨t1, t2, t3, _⟩ := rD_mem (List.mem_of_getElem? ht)
    have m1 : t.2.2.natAbs < 2 ^ 100032 := by rw [t3]; exact sm (by omega) (by omega)
    refine ⟨rfl, fun _ => ⟨rfl, c, t.1, rfl, hc, by omega, mulOk 100032 3000 m1 (s2 (by omega)) (by decide) (by decide) (by decide), rfl, c, t.2.1, rfl, hc, by omega, mulOk 103032 3000 (two_mul m1 (s2 (by omega)) (by decide)) (s2 (by omega)) (by decide) (by decide) (by decide), ?_, ?_, rfl⟩, nofun⟩
    · have := rD_len F 17
      rw [List.length_map, List.length_take, sizeLine_eq]; omega
    · rw [List.take_add_one, ht, Option.toList_some, List.map_append]
      rfl
  · rintro acc ρ ⟨rfl, rfl⟩
    have el : (Wk.items ((rD F 17).map rowP)).list.length = (rD F 17).length := List.length_map _
    rw [← hF, el, List.take_length]
    exact ⟨(rD F 17).map (fun t : T3 => t.2.2 * sumF c t.1 * sumF c t.2.1), by rw [List.map_map]; rfl, by omega, q⟩
/-! the law's two ways -/
def S_walked (d : Nat) : FSpec := ⟨fun args Q => ∃ (f : FT) (c m : Nat), args = [.d f.pd, .d (.int c)] ∧ f.lev ≤ d ∧ f.ok m ∧ 10 ≤ m ∧ c ≤ 1000 ∧ Q (.d (.int (sumN c fun x => sumN c fun y => f.val (x : Nat) (y : Nat)))) []⟩
theorem sum_range (g : Nat → Int) : ∀ n : Nat, ((List.range n).map g).sum = sumN n g
  | 0 => rfl
  | n + 1 => by rw [List.range_succ, List.map_append, List.sum_append, sum_range g n, sumN]; simp
abbrev N_law_walked_3d34 : List Str := ["formula", "clock", "found", "x", "y"]
def ir_law_walked_3d34 (S_law_worth_98b9 : FSpec) : TSt :=
  (sSeq (sAsg 2 (fD (dC (.int 0))))
    (sSeq (sFor (iRg (aCons (.s 1) aNil)) (.nm 3) (sAsg 2 (fD (dBin bAdd (.s 2) (.e (dBi bSum (aCons (.e (dFz (fLc (iRg (aCons (.s 1) aNil)) [4] (.nm 4) cYes (dFz (fCall S_law_worth_98b9 (aCons (.e (dVar 0)) (aCons (.e (dVar 3)) (aCons (.e (dVar 4)) aNil)))))))) aNil)))))))
    (sRetV 2)))
theorem sp_walked (d : Nat) : ∀ args Q, (S_walked d).sp args Q → ir_law_walked_3d34 (S_worth d) (endsOf args Q) (rho0 N_law_walked_3d34 args) := by
  rintro args Q ⟨f, c, m, rfl, hl, ok, hm, hc, q⟩
  have sm : ∀ i : Nat, i < 1000 → ((i : Nat) : Int).natAbs < 2 ^ m := fun i hi => Nat.lt_of_lt_of_le (show _ < 2 ^ 10 by omega) (Nat.pow_le_pow_right (by decide) hm)
  refine ⟨by omega, _, rfl, fun i ρ => ∃ t, ρ = [some (.d f.pd), some (.d (.int c)), some (.d (.int (sumN i fun x => sumN c fun y => f.val (x : Nat) (y : Nat)))), t, none], ⟨none, rfl⟩, ?_, ?_⟩
  · rintro i x ρ hx ⟨t, rfl⟩
    obtain ⟨rfl, hi⟩ := rngD_get hx
    have hi : i < c := hi
    have e0 : (0 : Int) + (i : Nat) = (i : Nat) := by omega
    rw [e0]
    refine ⟨by omega, ⟨rfl, rfl⟩, fun j acc ρ => acc = (List.range j).map (fun y => PyData.int (f.val (i : Nat) (y : Nat))) ∧ ρ = _, ⟨rfl, rfl⟩, fun _ _ _ _ => trivial, ?_, ?_⟩
    · rintro j y acc ρ hy ⟨rfl, rfl⟩
      obtain ⟨rfl, hj⟩ := rngD_get hy
      have hj : j < c := hj
      have f0 : (0 : Int) + (j : Nat) = (j : Nat) := by omega
      rw [f0]
      refine ⟨fun _ => ⟨rfl, f, _, _, m, rfl, hl, ok, sm i (by omega), sm j (by omega), ?_, ?_, rfl⟩, nofun⟩
      · rw [List.length_map, List.length_range, sizeLine_eq]; omega
      · exact mapR_succ (fun y => PyData.int (f.val (i : Nat) (y : Nat))) j
    · rintro acc ρ ⟨rfl, rfl⟩
      have el : (Wk.items (rngD 0 ((c : Nat) : Int).toNat)).list.length = c := rngD_len
      rw [el]
      refine ⟨(List.range c).map fun y => f.val (i : Nat) (y : Nat), ints_of _ _, ?_⟩
      rw [sum_range]
      exact ⟨_, rfl⟩
  · rintro ρ ⟨t, rfl⟩
    have el : (rngD 0 ((c : Nat) : Int).toNat).length = c := rngD_len
    rw [el]
    exact q
def S_lsum (d : Nat) : FSpec := ⟨fun args Q => ∃ (f : FT) (c m : Nat), args = [.d f.pd, .d (.int c)] ∧ f.lev ≤ d ∧ f.ok m ∧ 10 ≤ m ∧ 0 < c ∧ c < 2 ^ 110 ∧ Q (.d (.int (totB (fun u v => f.val u v) c))) []⟩
abbrev N_law_sum_ab53 : List Str := ["formula", "clock", "lines", "found", "x", "j", "i", "number", "y", "line"]
def ir_law_sum_ab53 (S_law_differences_931d : FSpec) (S_law_worth_98b9 : FSpec) (S_law_times_1ebf : FSpec) : TSt :=
  (sSeq (sPar 2 3 (fLst aNil) (fD (dC (.int 0))))
    (sSeq (sFor (iRg (aCons (.e (dC (.int 17))) aNil)) (.nm 4) (sApp 2 (dFz (fCall S_law_differences_931d (aCons (.e (dFz (fLc (iRg (aCons (.e (dC (.int 17))) aNil)) [8] (.nm 8) cYes (dFz (fCall S_law_worth_98b9 (aCons (.e (dVar 0)) (aCons (.e (dVar 4)) (aCons (.e (dVar 8)) aNil)))))))) aNil)))))
    (sSeq (sFor (iRg (aCons (.e (dC (.int 17))) aNil)) (.nm 5) (sFor (iEnm (dFz (fCall S_law_differences_931d (aCons (.e (dFz (fLc (iOwn 2) [9] (.nm 9) cYes (dBin bIx (.s 9) (.s 5))))) aNil)))) (.tp [6, 7]) (sAsg 3 (fD (dBin bAdd (.s 3) (.e (dBin bMulI (.e (dBin bMulI (.s 7) (.e (dFz (fCall S_law_times_1ebf (aCons (.e (dVar 1)) (aCons (.e (dVar 6)) aNil))))))) (.e (dFz (fCall S_law_times_1ebf (aCons (.e (dVar 1)) (aCons (.e (dVar 5)) aNil))))))))))))
    (sRetV 3))))
theorem tms_small {c k : Nat} (hc : c < 2 ^ 110) (hk : k ≤ 16) : (tms c k).natAbs < 2 ^ 3000 := quo_small hc hk
theorem sp_lsum (d : Nat) : ∀ args Q, (S_lsum d).sp args Q → ir_law_sum_ab53 S_differences (S_worth d) S_times (endsOf args Q) (rho0 N_law_sum_ab53 args) := by
  rintro args Q ⟨f, c, m, rfl, hl, ok, hm, c0, hc, q⟩
  have sm : ∀ i : Nat, i < 17 → ((i : Nat) : Int).natAbs < 2 ^ m := fun i hi => Nat.lt_of_lt_of_le (show _ < 2 ^ 10 by omega) (Nat.pow_le_pow_right (by decide) hm)
  have szl : ∀ n : Nat, n < 17 → n < sizeLine := fun n h => by rw [sizeLine_eq]; omega
  have difY : ∀ i : Nat, diffs ((List.range 17).map fun y => f.val (i : Nat) (y : Nat)) = (List.range 17).map fun j => itY j (fun u v => f.val u v) (i : Nat) 0 := fun i => by
    rw [diffs_range]
    exact List.map_congr_left fun j _ => itN_itY (i : Nat) j (fun u v => f.val u v) 0
  have difX : ∀ j : Nat, diffs ((List.range 17).map fun x => itY j (fun u v => f.val u v) (x : Nat) 0) = (List.range 17).map fun i => dd i j (fun u v => f.val u v) := fun j => by
    rw [diffs_range]
    exact List.map_congr_left fun i _ => itN_itX 0 i (itY j fun u v => f.val u v) 0
  obtain ⟨ln, hln⟩ : ∃ ln : Nat → PD, ln = fun x => .list ((List.range 17).map fun j => .int (itY j (fun u v => f.val u v) (x : Nat) 0)) := ⟨_, rfl⟩
  refine ⟨by decide, _, rfl, fun i ρ => ∃ t, ρ = [some (.d f.pd), some (.d (.int c)), some (.ls none ((List.range i).map ln)), some (.d (.int 0)), t, none, none, none, none, none], ⟨none, rfl⟩, ?_, ?_⟩
  · rintro i x ρ hx ⟨t, rfl⟩
    obtain ⟨rfl, hi⟩ := rngD_get hx
    have hi : i < 17 := hi
    have e0 : (0 : Int) + (i : Nat) = (i : Nat) := by omega
    rw [e0]
    refine ⟨by decide, ⟨rfl, rfl⟩, fun j acc ρ => acc = (List.range j).map (fun y => PyData.int (f.val (i : Nat) (y : Nat))) ∧ ρ = _, ⟨rfl, rfl⟩, fun _ _ _ _ => trivial, ?_, ?_⟩
    · rintro j y acc ρ hy ⟨rfl, rfl⟩
      obtain ⟨rfl, hj⟩ := rngD_get hy
      have hj : j < 17 := hj
      have f0 : (0 : Int) + (j : Nat) = (j : Nat) := by omega
      rw [f0]
      refine ⟨fun _ => ⟨rfl, f, _, _, m, rfl, hl, ok, sm i hi, sm j hj, ?_, ?_, rfl⟩, nofun⟩
      · rw [List.length_map, List.length_range]; exact szl j hj
      · exact mapR_succ (fun y => PyData.int (f.val (i : Nat) (y : Nat))) j
    · rintro acc ρ ⟨rfl, rfl⟩
      have el : (Wk.items (rngD 0 ((17 : Int)).toNat)).list.length = 17 := rngD_len
      rw [el]
      refine ⟨rfl, (List.range 17).map fun y => f.val (i : Nat) (y : Nat), by rw [← ints_of]; rfl, by simp, ?_⟩
      rw [difY, ← ints_of]
      refine ⟨?_, some (.d (.int (i : Nat))), ?_⟩
      · rw [List.length_map, List.length_range]; exact szl i hi
      · rw [← mapR_succ ln i, hln]
        rfl
  · rintro ρ ⟨t0, rfl⟩
    have el : (rngD 0 ((17 : Int)).toNat).length = 17 := rngD_len
    rw [el]
    obtain ⟨D, hD⟩ : ∃ D : Nat → Nat → Int, D = fun i j => dd i j (fun u v => f.val u v) := ⟨_, rfl⟩
    have dsm : ∀ {i j : Nat}, i ≤ 16 → j ≤ 16 → (D i j).natAbs < 2 ^ 100032 := fun hi hj => by rw [hD]; exact FT.dd_small ok hm hi hj
    refine ⟨by decide, _, rfl, fun j ρ => ∃ t s6 s7, ρ = [some (.d f.pd), some (.d (.int c)), some (.ls none ((List.range 17).map ln)), some (.d (.int (sumN j fun j => sumN 17 fun i => D i j * tms c i * tms c j))), t0, t, s6, s7, none, none], ⟨none, none, none, rfl⟩, ?_, ?_⟩
    · rintro j x ρ hx ⟨t, s6, s7, rfl⟩
      obtain ⟨rfl, hj⟩ := rngD_get hx
      have hj : j < 17 := hj
      have e0 : (0 : Int) + (j : Nat) = (j : Nat) := by omega
      rw [e0]
      refine ⟨⟨rfl, rfl⟩, fun i acc ρ => acc = (List.range i).map (fun x => PyData.int (itY j (fun u v => f.val u v) (x : Nat) 0)) ∧ ρ = [some (.d f.pd), some (.d (.int c)), some (.ls none ((List.range 17).map ln)), some (.d (.int (sumN j fun j => sumN 17 fun i => D i j * tms c i * tms c j))), t0, some (.d (.int (j : Nat))), s6, s7, none, none], ⟨rfl, rfl⟩, ?_, ?_, ?_⟩
      · rintro i acc ρ ⟨_, rfl⟩
        rfl
      · rintro i y acc ρ hy ⟨rfl, rfl⟩
        have hy : ((List.range 17).map ln)[i]? = some y := hy
        rw [List.getElem?_map] at hy
        obtain ⟨i', hi', rfl⟩ := Option.map_eq_some_iff.mp hy
        have hi : i < 17 := by have := (List.getElem?_eq_some_iff.mp hi').1; simpa using this
        rw [List.getElem?_range hi] at hi'
        cases hi'
        rw [hln]
        refine ⟨fun _ => ⟨_, atR _ hj, ?_, ?_, rfl⟩, nofun⟩
        · rw [List.length_map, List.length_range]; exact szl i hi
        · exact mapR_succ (fun x => PyData.int (itY j (fun u v => f.val u v) (x : Nat) 0)) i
      · rintro acc ρ ⟨rfl, rfl⟩
        have el : (Wk.own 2 none ((List.range 17).map ln)).list.length = 17 := by show ((List.range 17).map ln).length = 17; simp
        rw [el]
        refine ⟨rfl, (List.range 17).map fun x => itY j (fun u v => f.val u v) (x : Nat) 0, by rw [← ints_of]; rfl, by simp, ?_⟩
        rw [difX, ← ints_of]
        have hDe : (fun i => PyData.int (dd i j fun u v => f.val u v)) = fun i => PyData.int (D i j) := by rw [hD]
        rw [hDe]
        refine ⟨_, rfl, fun i ρ => ∃ s6 s7, ρ = [some (.d f.pd), some (.d (.int c)), some (.ls none ((List.range 17).map ln)), some (.d (.int ((sumN j fun j => sumN 17 fun i => D i j * tms c i * tms c j) + sumN i fun i => D i j * tms c i * tms c j))), t0, some (.d (.int (j : Nat))), s6, s7, none, none], ⟨s6, s7, by rw [sumN, Int.add_zero]; rfl⟩, ?_, ?_⟩
        · rintro i y ρ hy ⟨s6, s7, rfl⟩
          obtain ⟨w, hw, rfl⟩ := enumD_inv hy
          rw [List.getElem?_map] at hw
          obtain ⟨i', hi', rfl⟩ := Option.map_eq_some_iff.mp hw
          have hi : i < 17 := by have := (List.getElem?_eq_some_iff.mp hi').1; simpa using this
          rw [List.getElem?_range hi] at hi'
          cases hi'
          refine ⟨rfl, rfl, c, i, rfl, hc, by omega, mulOk 100032 3000 (dsm (by omega) (by omega)) (tms_small hc (by omega)) (by decide) (by decide) (by decide), rfl, c, j, rfl, hc, by omega, mulOk 103032 3000 (two_mul (dsm (by omega) (by omega)) (tms_small hc (by omega)) (by decide)) (tms_small hc (by omega)) (by decide) (by decide) (by decide), some (.d (.int (i : Nat))), some (.d (.int (D i j))), ?_⟩
          rw [sumN, Int.add_assoc]
          rfl
        · rintro ρ ⟨s6, s7, rfl⟩
          have el : (enumD ((List.range 17).map fun i => PyData.int (D i j))).length = 17 := by rw [enumD_len]; simp
          rw [el]
          exact ⟨_, s6, s7, rfl⟩
    · rintro ρ ⟨t, s6, s7, rfl⟩
      have el : (rngD 0 ((17 : Int)).toNat).length = 17 := rngD_len
      rw [el]
      rw [totB_parts f.pol c] at q
      rw [hD]
      exact q
/-! letters exchanged -/
def FT.turn : FT → FT
  | int i => int i
  | x => y
  | y => x
  | add a b => add a.turn b.turn
  | sub a b => sub a.turn b.turn
  | mul a b => mul a.turn b.turn
  | pow a n => pow a.turn n
theorem FT.turn_val (u v : Int) : ∀ f : FT, f.turn.val u v = f.val v u
  | int _ => rfl
  | x => rfl
  | y => rfl
  | add a b => by simp only [turn, val]; rw [turn_val u v a, turn_val u v b]
  | sub a b => by simp only [turn, val]; rw [turn_val u v a, turn_val u v b]
  | mul a b => by simp only [turn, val]; rw [turn_val u v a, turn_val u v b]
  | pow a n => by simp only [turn, val]; rw [turn_val u v a]
theorem FT.turn_same : ∀ f : FT, f.turn.lev = f.lev ∧ f.turn.e = f.e ∧ f.turn.deg = f.deg ∧ ∀ m, f.turn.le m ↔ f.le m
  | int _ => ⟨rfl, rfl, rfl, fun _ => Iff.rfl⟩
  | x => ⟨rfl, rfl, rfl, fun _ => Iff.rfl⟩
  | y => ⟨rfl, rfl, rfl, fun _ => Iff.rfl⟩
  | add a b => by
    obtain ⟨a1, a2, a3, a4⟩ := turn_same a
    obtain ⟨b1, b2, b3, b4⟩ := turn_same b
    exact ⟨by simp only [turn, lev, a1, b1], by simp only [turn, e, a2, b2], by simp only [turn, deg, a3, b3], fun m => by simp only [turn, le, a4, b4]⟩
  | sub a b => by
    obtain ⟨a1, a2, a3, a4⟩ := turn_same a
    obtain ⟨b1, b2, b3, b4⟩ := turn_same b
    exact ⟨by simp only [turn, lev, a1, b1], by simp only [turn, e, a2, b2], by simp only [turn, deg, a3, b3], fun m => by simp only [turn, le, a4, b4]⟩
  | mul a b => by
    obtain ⟨a1, a2, a3, a4⟩ := turn_same a
    obtain ⟨b1, b2, b3, b4⟩ := turn_same b
    exact ⟨by simp only [turn, lev, a1, b1], by simp only [turn, e, a2, b2], by simp only [turn, deg, a3, b3], fun m => by simp only [turn, le, a4, b4]⟩
  | pow a n => by
    obtain ⟨a1, a2, a3, a4⟩ := turn_same a
    exact ⟨by simp only [turn, lev, a1], by simp only [turn, e, a2], by simp only [turn, deg, a3], fun m => by simp only [turn, le, a4]⟩
theorem FT.shpN : ∀ f : FT, Shp f.lev f.pd
  | int i => .int i
  | x => .str (by decide +kernel)
  | y => .str (by decide +kernel)
  | add a b => key a.shpN b.shpN (by decide +kernel)
  | sub a b => key a.shpN b.shpN (by decide +kernel)
  | mul a b => key a.shpN b.shpN (by decide +kernel)
  | pow a n => (Shp.tup (n := a.lev) fun w hw => by
      simp only [List.mem_cons, List.not_mem_nil, or_false] at hw
      rcases hw with rfl | rfl | rfl
      · exact .str (by decide +kernel)
      · exact a.shpN
      · exact .int _)
where
  key {p q : FT} {w : Str} (h1 : Shp p.lev p.pd) (h2 : Shp q.lev q.pd) (hw : PyData.canLay0 (.str w) = true) : Shp (max p.lev q.lev + 1) (.tuple [.str w, p.pd, q.pd]) := Shp.tup fun z hz => by
    simp only [List.mem_cons, List.not_mem_nil, or_false] at hz
    rcases hz with rfl | rfl | rfl
    · exact .str hw
    · exact h1.mono (Nat.le_max_left _ _)
    · exact h2.mono (Nat.le_max_right _ _)
def S_turned (d : Nat) : FSpec := ⟨fun args Q => ∃ f : FT, args = [.d f.pd] ∧ f.lev ≤ d ∧ d ≤ 60 ∧ Q (.d f.turn.pd) []⟩
theorem S_turned0 : ∀ args Q, ¬ (S_turned 0).sp args Q := by
  rintro args Q ⟨f, _, h, _⟩
  have := f.lev_pos
  omega
abbrev N_law_turned_9f3a : List Str := ["formula"]
def ir_law_turned_9f3a (S_law_turned_9f3a : FSpec) : TSt :=
  (sSeq (sIf (tVal (dBin (cInT false) (.s 0) (.e (dTup (aCons (.e (dC (.str "x"))) (aCons (.e (dC (.str "y"))) aNil)))))) (sRet (fD (dIte (tVal (dBin cEq (.s 0) (.e (dC (.str "x"))))) (dC (.str "y")) (dC (.str "x"))))) sNext)
    (sSeq (sIf (tNotD (tVal (dIsi "tuple" (.s 0)))) (sRetV 0) sNext)
    (sSeq (sIf (tVal (dBin cEq (.e (dBin bIx (.s 0) (.e (dC (.int 0))))) (.e (dC (.str "pow"))))) (sRet (fD (dTup (aCons (.e (dC (.str "pow"))) (aCons (.e (dFz (fCall S_law_turned_9f3a (aCons (.e (dBin bIx (.s 0) (.e (dC (.int 1))))) aNil)))) (aCons (.e (dBin bIx (.s 0) (.e (dC (.int 2))))) aNil)))))) sNext)
    (sRet (fD (dTup (aCons (.e (dBin bIx (.s 0) (.e (dC (.int 0))))) (aCons (.e (dFz (fCall S_law_turned_9f3a (aCons (.e (dBin bIx (.s 0) (.e (dC (.int 1))))) aNil)))) (aCons (.e (dFz (fCall S_law_turned_9f3a (aCons (.e (dBin bIx (.s 0) (.e (dC (.int 2))))) aNil)))) aNil)))))))))
theorem xy_shp : shp (.tuple [FT.x.pd, FT.y.pd]) := (Shp.tup (n := 1) fun z hz => by
  simp only [List.mem_cons, List.not_mem_nil, or_false] at hz
  rcases hz with rfl | rfl
  · exact FT.x.shpN
  · exact FT.y.shpN).shp
theorem sp_turned (d : Nat) : ∀ args Q, (S_turned (d + 1)).sp args Q → ir_law_turned_9f3a (S_turned d) (endsOf args Q) (rho0 N_law_turned_9f3a args) := by
  rintro args Q ⟨f, rfl, hl, h60, q⟩
  have sh : shp f.pd := (f.shpN.mono (by omega : f.lev ≤ 60)).shp
  cases f with
  | int i => exact ⟨sh, _, rfl, xy_shp, by decide, nofun, fun _ => ⟨rfl, fun _ => q, nofun⟩⟩
  | x => exact ⟨sh, _, rfl, xy_shp, by decide, fun _ => ⟨fun _ => q, nofun⟩, nofun⟩
  | y => exact ⟨sh, _, rfl, xy_shp, by decide, fun _ => ⟨nofun, fun _ => q⟩, nofun⟩
  | pow a n =>
    have hl' : a.lev ≤ d := by simp only [FT.lev] at hl; omega
    exact ⟨sh, _, rfl, xy_shp, by decide, nofun, fun _ => ⟨rfl, nofun, fun _ => ⟨_, rfl, fun _ => ⟨_, rfl, rfl, a, rfl, hl', by omega, _, rfl, q⟩, nofun⟩⟩⟩
  | mul a b =>
    have hl' : a.lev ≤ d ∧ b.lev ≤ d := by simp only [FT.lev] at hl; omega
    exact ⟨sh, _, rfl, xy_shp, by decide, nofun, fun _ => ⟨rfl, nofun, fun _ => ⟨_, rfl, nofun, fun _ => ⟨_, rfl, _, rfl, rfl, a, rfl, hl'.1, by omega, _, rfl, rfl, b, rfl, hl'.2, by omega, q⟩⟩⟩⟩
  | add a b =>
    have hl' : a.lev ≤ d ∧ b.lev ≤ d := by simp only [FT.lev] at hl; omega
    exact ⟨sh, _, rfl, xy_shp, by decide, nofun, fun _ => ⟨rfl, nofun, fun _ => ⟨_, rfl, nofun, fun _ => ⟨_, rfl, _, rfl, rfl, a, rfl, hl'.1, by omega, _, rfl, rfl, b, rfl, hl'.2, by omega, q⟩⟩⟩⟩
  | sub a b =>
    have hl' : a.lev ≤ d ∧ b.lev ≤ d := by simp only [FT.lev] at hl; omega
    exact ⟨sh, _, rfl, xy_shp, by decide, nofun, fun _ => ⟨rfl, nofun, fun _ => ⟨_, rfl, nofun, fun _ => ⟨_, rfl, _, rfl, rfl, a, rfl, hl'.1, by omega, _, rfl, rfl, b, rfl, hl'.2, by omega, q⟩⟩⟩⟩
end DL
namespace DL
open PySem L2 PyProof.Rows
/-! what is a leaf, what stands in a formula -/
def FT.kids : FT → List FT
  | add a b | sub a b | mul a b => [a, b]
  | pow a _ => [a]
  | _ => []
def FT.isI : FT → Bool
  | int _ => true
  | _ => false
def FT.isL : FT → Bool
  | int i => decide ((if i < 0 then -i else i) < 10000000000000000000000000000000000000000)
  | x => true
  | y => true
  | _ => false
def FT.good1 : FT → Bool
  | int i => decide ((if i < 0 then -i else i) < 10000000000000000000000000000000000000000)
  | pow _ n => decide (((n : Nat) : Int) ≤ 16)
  | _ => true
def innerF (f : FT) : PD := if f.good1 = true then .tuple (f.kids.map FT.pd) else .none
def S_isint : FSpec := ⟨fun args Q => ∃ f : FT, args = [.d f.pd] ∧ Q (.d (.bool f.isI)) []⟩
abbrev N_is_integer : List Str := ["value"]
def ir_is_integer : TSt :=
  (sRet (fD (dAnd (dIsi "int" (.s 0)) (dNot (dIsi "bool" (.s 0))))))
theorem sp_isint : ∀ args Q, S_isint.sp args Q → ir_is_integer (endsOf args Q) (rho0 N_is_integer args) := by
  rintro args Q ⟨f, rfl, q⟩
  cases f with
  | int i => exact ⟨rfl, fun _ => ⟨rfl, q⟩, nofun⟩
  | x => exact ⟨rfl, nofun, fun _ => q⟩
  | y => exact ⟨rfl, nofun, fun _ => q⟩
  | add a b => exact ⟨rfl, nofun, fun _ => q⟩
  | sub a b => exact ⟨rfl, nofun, fun _ => q⟩
  | mul a b => exact ⟨rfl, nofun, fun _ => q⟩
  | pow a n => exact ⟨rfl, nofun, fun _ => q⟩
def S_isleaf : FSpec := ⟨fun args Q => ∃ f : FT, args = [.d f.pd] ∧ Q (.d (.bool f.isL)) []⟩
abbrev N_is_leaf : List Str := ["value"]
def ir_is_leaf (S_is_integer : FSpec) : TSt :=
  (sSeq (sIf (tVal (dFz (fCall S_is_integer (aCons (.e (dVar 0)) aNil)))) (sRet (fD (dBin cLt (.e (dBi bAbs (aCons (.s 0) aNil))) (.e (dC (.int 10000000000000000000000000000000000000000)))))) sNext)
    (sRet (fD (dAnd (dIsi "str" (.s 0)) (dBin (cIn false) (.s 0) (.e (dC (.tuple [.str "x", .str "y"]))))))))
theorem sp_isleaf : ∀ args Q, S_isleaf.sp args Q → ir_is_leaf S_isint (endsOf args Q) (rho0 N_is_leaf args) := by
  rintro args Q ⟨f, rfl, q⟩
  cases f with
  | int i => exact ⟨rfl, .int i, rfl, fun _ => q, nofun⟩
  | x => exact ⟨rfl, .x, rfl, nofun, fun _ => ⟨rfl, fun _ => ⟨rfl, _, rfl, rfl, q⟩, nofun⟩⟩
  | y => exact ⟨rfl, .y, rfl, nofun, fun _ => ⟨rfl, fun _ => ⟨rfl, _, rfl, rfl, q⟩, nofun⟩⟩
  | add a b => exact ⟨rfl, .add a b, rfl, nofun, fun _ => ⟨rfl, nofun, fun _ => q⟩⟩
  | sub a b => exact ⟨rfl, .sub a b, rfl, nofun, fun _ => ⟨rfl, nofun, fun _ => q⟩⟩
  | mul a b => exact ⟨rfl, .mul a b, rfl, nofun, fun _ => ⟨rfl, nofun, fun _ => q⟩⟩
  | pow a n => exact ⟨rfl, .pow a n, rfl, nofun, fun _ => ⟨rfl, nofun, fun _ => q⟩⟩
def S_inner : FSpec := ⟨fun args Q => ∃ f : FT, args = [.d f.pd] ∧ Q (.d (innerF f)) []⟩
abbrev N_inner : List Str := ["value"]
def ir_inner (S_is_leaf : FSpec) (S_is_integer : FSpec) : TSt :=
  (sSeq (sIf (tVal (dFz (fCall S_is_leaf (aCons (.e (dVar 0)) aNil)))) (sRet (fD (dTup aNil))) sNext)
    (sSeq (sIf (tOrD (tNotD (tVal (dIsi "tuple" (.s 0)))) (tOrD (tVal (dBin cNe (.e (dBi bLen (aCons (.s 0) aNil))) (.e (dC (.int 3))))) (tNotD (tVal (dIsi "str" (.e (dBin bIx (.s 0) (.e (dC (.int 0)))))))))) (sRet (fD (dC (.none)))) sNext)
    (sSeq (sIf (tVal (dBin (cIn false) (.e (dBin bIx (.s 0) (.e (dC (.int 0))))) (.e (dC (.tuple [.str "add", .str "sub", .str "mul"]))))) (sRet (fD (dSl (.s 0) (pSome (.e (dC (.int 1)))) pNone))) sNext)
    (sSeq (sIf (tAndD (tVal (dBin cEq (.e (dBin bIx (.s 0) (.e (dC (.int 0))))) (.e (dC (.str "pow"))))) (tAndD (tVal (dFz (fCall S_is_integer (aCons (.e (dBin bIx (.s 0) (.e (dC (.int 2))))) aNil)))) (tVal (dChain (fun i j => decide (i ≤ j)) (fun i j => decide (i ≤ j)) (.e (dC (.int 0))) (.e (dBin bIx (.s 0) (.e (dC (.int 2))))) (.e (dC (.int 16))))))) (sRet (fD (dSl (.s 0) (pSome (.e (dC (.int 1)))) (pSome (.e (dC (.int 2))))))) sNext)
    (sRet (fD (dC (.none))))))))
theorem sp_inner : ∀ args Q, S_inner.sp args Q → ir_inner S_isleaf S_isint (endsOf args Q) (rho0 N_inner args) := by
  rintro args Q ⟨f, rfl, q⟩
  cases f with
  | int i =>
    refine ⟨rfl, .int i, rfl, fun h => ?_, fun h => ⟨rfl, fun _ => ⟨fun _ => ?_, nofun⟩, nofun⟩⟩
    · have h : (FT.int i).good1 = true := h
      unfold innerF at q
      rw [if_pos h] at q
      exact q
    · have h : (FT.int i).good1 = false := h
      unfold innerF at q
      rw [if_neg (by rw [h]; exact Bool.false_ne_true)] at q
      exact q
  | x => exact ⟨rfl, .x, rfl, fun _ => q, nofun⟩
  | y => exact ⟨rfl, .y, rfl, fun _ => q, nofun⟩
  | add a b => exact ⟨rfl, .add a b, rfl, nofun, fun _ => ⟨rfl, nofun, fun _ => ⟨nofun, fun _ => ⟨_, rfl, rfl, nofun, fun _ => ⟨_, rfl, rfl, _, rfl, rfl, fun _ => q, nofun⟩⟩⟩⟩⟩
  | sub a b => exact ⟨rfl, .sub a b, rfl, nofun, fun _ => ⟨rfl, nofun, fun _ => ⟨nofun, fun _ => ⟨_, rfl, rfl, nofun, fun _ => ⟨_, rfl, rfl, _, rfl, rfl, fun _ => q, nofun⟩⟩⟩⟩⟩
  | mul a b => exact ⟨rfl, .mul a b, rfl, nofun, fun _ => ⟨rfl, nofun, fun _ => ⟨nofun, fun _ => ⟨_, rfl, rfl, nofun, fun _ => ⟨_, rfl, rfl, _, rfl, rfl, fun _ => q, nofun⟩⟩⟩⟩⟩
  | pow a n =>
    have n0 : (0 : Int) ≤ ((n : Nat) : Int) := by omega
    refine ⟨rfl, .pow a n, rfl, nofun, fun _ => ⟨rfl, nofun, fun _ => ⟨nofun, fun _ => ⟨_, rfl, rfl, nofun, fun _ => ⟨_, rfl, rfl, _, rfl, rfl, nofun, fun _ => ⟨_, rfl, fun _ => ⟨_, rfl, rfl, .int ((n : Nat) : Int), rfl, fun _ => ⟨_, rfl, fun _ => ⟨fun h => ?_, fun h => ?_⟩, fun h => ?_⟩, nofun⟩, nofun⟩⟩⟩⟩⟩⟩
    · have h : (FT.pow a n).good1 = true := h
      unfold innerF at q
      rw [if_pos h] at q
      exact q
    · have h : (FT.pow a n).good1 = false := h
      unfold innerF at q
      rw [if_neg (by rw [h]; exact Bool.false_ne_true)] at q
      exact q
    · exact absurd n0 (of_decide_eq_false h)
/-- all of it is in its bounds -/
def FT.wf : FT → Prop
  | int i => i.natAbs < 10 ^ 40
  | add a b | sub a b | mul a b => a.wf ∧ b.wf
  | pow a n => a.wf ∧ n ≤ 16
  | _ => True
theorem FT.wf.good {f : FT} (h : f.wf) : f.good1 = true := by
  cases f with
  | int i =>
    have h : i.natAbs < 10 ^ 40 := h
    show decide ((if i < 0 then -i else i) < 10000000000000000000000000000000000000000) = true
    rw [decide_eq_true_iff]
    split <;> omega
  | pow a n => exact decide_eq_true (by have h : n ≤ 16 := h.2; omega)
  | _ => rfl
theorem FT.wf.kid {f : FT} (h : f.wf) : ∀ k ∈ f.kids, k.wf ∧ k.lev + 1 ≤ f.lev := by
  cases f with
  | int i => exact fun k hk => by cases hk
  | x => exact fun k hk => by cases hk
  | y => exact fun k hk => by cases hk
  | pow a n =>
    intro k hk
    simp only [kids, List.mem_cons, List.not_mem_nil, or_false] at hk
    subst hk
    exact ⟨h.1, Nat.le_refl _⟩
  | add a b | sub a b | mul a b =>
    intro k hk
    simp only [kids, List.mem_cons, List.not_mem_nil, or_false] at hk
    rcases hk with rfl | rfl
    · exact ⟨h.1, by simp only [lev]; omega⟩
    · exact ⟨h.2, by simp only [lev]; omega⟩
theorem FT.wf.of {f : FT} (h : f.in40) (he : f.e ≤ 16) : f.wf := by
  induction f with
  | int i => exact h
  | x => trivial
  | y => trivial
  | add a b ia ib => simp only [e] at he; exact ⟨ia h.1 (by omega), ib h.2 (by omega)⟩
  | sub a b ia ib => simp only [e] at he; exact ⟨ia h.1 (by omega), ib h.2 (by omega)⟩
  | mul a b ia ib => simp only [e] at he; exact ⟨ia h.1 (by omega), ib h.2 (by omega)⟩
  | pow a n ia =>
    simp only [e] at he
    have e1 : a.e ≤ a.e * max 1 n := Nat.le_mul_of_pos_right _ (by omega)
    have e2 : max 1 n ≤ a.e * max 1 n := Nat.le_mul_of_pos_left _ a.e_pos
    exact ⟨ia h (by omega), by omega⟩
def S_lone (d : Nat) : FSpec := ⟨fun args Q => ∃ f : FT, args = [.d f.pd] ∧ f.lev ≤ d ∧ d ≤ 60 ∧ f.wf ∧ Q (.d (.bool (!f.hasY))) []⟩
theorem S_lone0 : ∀ args Q, ¬ (S_lone 0).sp args Q := by
  rintro args Q ⟨f, _, h, _⟩
  have := f.lev_pos
  omega
theorem lone_body (d : Nat) {f : FT} (hd : d ≤ 60) (hl : f.lev ≤ d + 1) (hw : f.wf) {Q : PD → En → Prop} (q : Q (.bool (f.kids.all fun k => !k.hasY)) [some (.d f.pd), none]) :
    (dBi bAll (aCons (.e (dFz (fLc (iSeq (dFz (fCall S_inner (aCons (.e (dVar 0)) aNil)))) [1] (.nm 1) cYes (dFz (fCall (S_lone d) (aCons (.e (dVar 1)) aNil)))))) aNil)) [some (.d f.pd), none] Q := by
  refine ⟨rfl, f, rfl, ?_⟩
  unfold innerF
  rw [if_pos hw.good]
  refine ⟨⟨rfl, rfl⟩, fun i acc ρ => acc = (f.kids.take i).map (fun k => PyData.bool (!k.hasY)) ∧ ρ = [some (.d f.pd), none], ⟨rfl, rfl⟩, fun _ _ _ _ => trivial, ?_, ?_⟩
  · rintro i z acc ρ hz ⟨rfl, rfl⟩
    have hz : (f.kids.map FT.pd)[i]? = some z := hz
    rw [List.getElem?_map] at hz
    obtain ⟨k, hk, rfl⟩ := Option.map_eq_some_iff.mp hz
    obtain ⟨kw, kl⟩ := hw.kid k (List.mem_of_getElem? hk)
    refine ⟨fun _ => ⟨rfl, k, rfl, by omega, hd, kw, ?_, ?_, rfl⟩, nofun⟩
    · have : f.kids.length ≤ 2 := by cases f <;> simp [FT.kids]
      rw [List.length_map, List.length_take, sizeLine_eq]; omega
    · rw [List.take_add_one, hk, Option.toList_some, List.map_append]
      rfl
  · rintro acc ρ ⟨rfl, rfl⟩
    have el : (Wk.items (f.kids.map FT.pd)).list.length = f.kids.length := List.length_map _
    rw [el, List.take_length]
    refine ⟨f.kids.map fun k => !k.hasY, by rw [List.map_map]; rfl, ?_⟩
    have e : (f.kids.map fun k => !k.hasY).all id = f.kids.all fun k => !k.hasY := by rw [List.all_map]; rfl
    first
      | (rw [← e] at q; exact q)
      | exact q
abbrev N_is_lone : List Str := ["formula", "one"]
def ir_is_lone (S_inner : FSpec) (S_is_lone : FSpec) : TSt :=
  (sRet (fD (dAnd (dBin cNe (.s 0) (.e (dC (.str "y")))) (dBi bAll (aCons (.e (dFz (fLc (iSeq (dFz (fCall S_inner (aCons (.e (dVar 0)) aNil)))) [1] (.nm 1) cYes (dFz (fCall S_is_lone (aCons (.e (dVar 1)) aNil)))))) aNil)))))
theorem sp_lone (d : Nat) : ∀ args Q, (S_lone (d + 1)).sp args Q → ir_is_lone S_inner (S_lone d) (endsOf args Q) (rho0 N_is_lone args) := by
  rintro args Q ⟨f, rfl, hl, hd, hw, q⟩
  have sh : shp f.pd := (f.shpN.mono (by omega : f.lev ≤ 61)).shp
  have sy : shp (.str "y") := (FT.y.shpN).shp
  have d60 : d ≤ 60 := by omega
  cases f with
  | int i => exact ⟨sh, sy, fun _ => lone_body d d60 hl hw q, nofun⟩
  | x => exact ⟨fun _ => lone_body d d60 hl hw q, nofun⟩
  | y => exact ⟨nofun, fun _ => q⟩
  | add a b =>
    have e : (!(FT.add a b).hasY) = (FT.add a b).kids.all fun k => !k.hasY := by simp [FT.hasY, FT.kids]
    rw [e] at q
    exact ⟨sh, sy, fun _ => lone_body d d60 hl hw q, nofun⟩
  | sub a b =>
    have e : (!(FT.sub a b).hasY) = (FT.sub a b).kids.all fun k => !k.hasY := by simp [FT.hasY, FT.kids]
    rw [e] at q
    exact ⟨sh, sy, fun _ => lone_body d d60 hl hw q, nofun⟩
  | mul a b =>
    have e : (!(FT.mul a b).hasY) = (FT.mul a b).kids.all fun k => !k.hasY := by simp [FT.hasY, FT.kids]
    rw [e] at q
    exact ⟨sh, sy, fun _ => lone_body d d60 hl hw q, nofun⟩
  | pow a n =>
    have e : (!(FT.pow a n).hasY) = (FT.pow a n).kids.all fun k => !k.hasY := by simp [FT.hasY, FT.kids]
    rw [e] at q
    exact ⟨sh, sy, fun _ => lone_body d d60 hl hw q, nofun⟩
/-! ### where y stands in a repr -/
theorem cl_tup3 (w p q : PD) : cl (PyData.shown (.tuple [w, p, q])) = 40 :: (cl (PyData.shown w) ++ 44 :: 32 :: (cl (PyData.shown p) ++ 44 :: 32 :: (cl (PyData.shown q) ++ [41]))) := by
  rw [PyData.shown, shownAll_map]
  have j : Str.join ", " ([w, p, q].map PyData.shown) = PyData.shown w ++ ", " ++ (PyData.shown p ++ ", " ++ PyData.shown q) := rfl
  have c1 : cl ("(" : Str) = [40] := by decide +kernel
  have c2 : cl (")" : Str) = [41] := by decide +kernel
  have c3 : cl (", " : Str) = [44, 32] := by decide +kernel
  unfold tupleText
  rw [j]
  have e : (if ([w, p, q].map PyData.shown).length == 1 then ",)" else ")" : String) = ")" := rfl
  rw [e]
  simp only [cl_app, c1, c2, c3]
  simp
theorem dig_nat (m : Nat) : 121 ∉ (Nat.toDigits 10 m).map Char.toNat := fun h => by
  obtain ⟨c, hc, e⟩ := List.mem_map.mp h
  have d := Nat.isDigit_of_mem_toDigits (by decide) (by decide) hc
  unfold Char.isDigit at d
  rw [Bool.and_eq_true, decide_eq_true_iff, decide_eq_true_iff] at d
  have d2 := UInt32.le_iff_toNat_le.mp d.2
  have e : c.val.toNat = 121 := e
  rw [e] at d2
  exact absurd d2 (by decide)
theorem dig_no (i : Int) : 121 ∉ cl (Str.ofString (toString i)) := by
  have nat : ∀ m : Nat, cl (Str.ofString (toString ((m : Nat) : Int))) = (Nat.toDigits 10 m).map Char.toNat := fun m => PySem.W.KIN.signs_num m
  rcases i with m | m
  · have := nat m
    show 121 ∉ cl (Str.ofString (toString ((m : Nat) : Int)))
    rw [this]
    exact dig_nat m
  · have e : toString (Int.negSucc m) = "-" ++ toString (((m + 1 : Nat)) : Int) := rfl
    have e2 : cl (Str.ofString ("-" ++ toString (((m + 1 : Nat)) : Int))) = 45 :: cl (Str.ofString (toString (((m + 1 : Nat)) : Int))) := by
      unfold cl
      rw [PySem.Str.ofString_eq_toList, PySem.Str.ofString_eq_toList, String.toList_append, List.map_append]
      rfl
    rw [e, e2, nat, List.mem_cons]
    rintro (h | h)
    · cases h
    · exact dig_nat _ h
theorem shown_int (i : Int) : PyData.shown (.int i) = Str.ofString (toString i) := by rw [PyData.shown]
theorem no_y : ∀ {f : FT}, f.hasY = false → 121 ∉ cl (PyData.shown f.pd)
  | .int i, _ => by show 121 ∉ cl (PyData.shown (.int i)); rw [shown_int]; exact dig_no i
  | .x, _ => by decide +kernel
  | .y, h => by cases h
  | .add a b, h => by
    simp only [FT.hasY, Bool.or_eq_false_iff] at h
    exact key (by decide +kernel) (no_y h.1) (no_y h.2)
  | .sub a b, h => by
    simp only [FT.hasY, Bool.or_eq_false_iff] at h
    exact key (by decide +kernel) (no_y h.1) (no_y h.2)
  | .mul a b, h => by
    simp only [FT.hasY, Bool.or_eq_false_iff] at h
    exact key (by decide +kernel) (no_y h.1) (no_y h.2)
  | .pow a n, h => key (by decide +kernel) (no_y (f := a) h) (by rw [shown_int]; exact dig_no _)
where
  key {w p q : PD} (h1 : 121 ∉ cl (PyData.shown w)) (h2 : 121 ∉ cl (PyData.shown p)) (h3 : 121 ∉ cl (PyData.shown q)) : 121 ∉ cl (PyData.shown (.tuple [w, p, q])) := by
    rw [cl_tup3]
    simp only [List.mem_cons, List.mem_append, List.not_mem_nil, or_false]
    rintro (h | h | h | h | h | h | h | h | h) <;> first | contradiction | (cases h; done) | omega
theorem has_y : ∀ {f : FT}, f.hasY = true → ∃ A B, cl (PyData.shown f.pd) = A ++ ([39, 121, 39] ++ B)
  | .int _, h => by cases h
  | .x, h => by cases h
  | .y, _ => ⟨[], [], by decide +kernel⟩
  | .add a b, h => by
    simp only [FT.hasY, Bool.or_eq_true] at h
    exact h.elim (fun h => left (has_y h)) fun h => right (has_y h)
  | .sub a b, h => by
    simp only [FT.hasY, Bool.or_eq_true] at h
    exact h.elim (fun h => left (has_y h)) fun h => right (has_y h)
  | .mul a b, h => by
    simp only [FT.hasY, Bool.or_eq_true] at h
    exact h.elim (fun h => left (has_y h)) fun h => right (has_y h)
  | .pow a n, h => left (has_y (f := a) h)
where
  left {w p q : PD} (h : ∃ A B, cl (PyData.shown p) = A ++ ([39, 121, 39] ++ B)) : ∃ A B, cl (PyData.shown (.tuple [w, p, q])) = A ++ ([39, 121, 39] ++ B) := by
    obtain ⟨A, B, e⟩ := h
    refine ⟨40 :: (cl (PyData.shown w) ++ 44 :: 32 :: A), B ++ 44 :: 32 :: (cl (PyData.shown q) ++ [41]), ?_⟩
    rw [cl_tup3, e]
    simp
  right {w p q : PD} (h : ∃ A B, cl (PyData.shown q) = A ++ ([39, 121, 39] ++ B)) : ∃ A B, cl (PyData.shown (.tuple [w, p, q])) = A ++ ([39, 121, 39] ++ B) := by
    obtain ⟨A, B, e⟩ := h
    refine ⟨40 :: (cl (PyData.shown w) ++ 44 :: 32 :: (cl (PyData.shown p) ++ 44 :: 32 :: A)), B ++ [41], ?_⟩
    rw [cl_tup3, e]
    simp
/-- 'y' stands in the repr just if y stands in the formula -/
theorem occ_y (f : FT) : (!(Builtin.Str.occurrences (PyData.shown f.pd) "'y'" 0 (PyData.shown f.pd).length 1).isEmpty) = f.hasY := by
  have cy : cl ("'y'" : Str) = [39, 121, 39] := by decide +kernel
  have h := occ_iff (PyData.shown f.pd) "'y'"
  rw [cy] at h
  cases e : f.hasY with
  | true => exact h.mpr (has_y e)
  | false =>
    rw [Bool.eq_false_iff]
    intro z
    obtain ⟨A, B, q⟩ := h.mp z
    have := no_y e
    rw [q] at this
    exact this (by simp)
end DL
/-! Dials: the laws' own look at them. -/
namespace DL
open PySem L2 PyProof.Rows
def intP : PD → Int
  | .int i => i
  | _ => 0
theorem isHr_to {n : Nat} {x : PD} (h : isHr n x = true) : x = .int (intP x) ∧ 0 ≤ intP x ∧ intP x < (n : Int) := by
  obtain ⟨i, rfl, h1, h2⟩ := isHr_int h
  exact ⟨rfl, h1, h2⟩
def nnR (x : PD) : PD := .tuple [.str "no number", x]
def tlR (x : PD) : PD := .tuple [.str "told", x]
/-- what telling comes to -/
def setR (n : Nat) (st : List P2) (x y : PD) : PD := if isHr n x = false then nnR x else if isHr n y = false then nnR y else if isNone (getV st (intP x)) = false then tlR x else if st.length = 8 then .str "full" else .str "fine"
def setS (n : Nat) (st un : List P2) (x y : PD) : List P2 × List P2 := if isHr n x = false then (st, un) else if isHr n y = false then (st, un) else if isNone (getV st (intP x)) = false then (st, un) else if st.length = 8 then (st, un) else (st ++ [(intP x, intP y)], [])
def getR (n : Nat) (st : List P2) (x : PD) : PD := if isHr n x = true then getV st (intP x) else nnR x
def lastR (st : List P2) : PD := match st.getLast? with
  | some p => .int p.1
  | none => .str "nothing"
def lastS (st un : List P2) : List P2 × List P2 := match st.getLast? with
  | some p => (st.dropLast, un ++ [p])
  | none => (st, un)
/-- the law's state -/
def stL (p : Option Nat) (st un : List P2) : Lc := .ls p [.list (st.map prI), .list (un.map prI)]
def S_ishr : FSpec := ⟨fun args Q => ∃ (n : Nat) (x : PD), args = [.d x, .d (.int (n : Nat))] ∧ plainD x = true ∧ Q (.d (.bool (isHr n x))) []⟩
abbrev N_law_is_hour_b9ab : List Str := ["value", "clock"]
def ir_law_is_hour_b9ab : TSt :=
  (sRet (fD (dAnd (dIsi "int" (.s 0)) (dAnd (dNot (dIsi "bool" (.s 0))) (dChain (fun i j => decide (i ≤ j)) (fun i j => decide (i < j)) (.e (dC (.int 0))) (.s 0) (.s 1))))))

theorem sp_ishr : ∀ args Q, S_ishr.sp args Q → ir_law_is_hour_b9ab (endsOf args Q) (rho0 N_law_is_hour_b9ab args) := by
  rintro args Q ⟨n, x, rfl, hx, q⟩
  cases x with
  | none => exact ⟨rfl, nofun, fun _ => q⟩
  | bool b => exact ⟨rfl, fun _ => ⟨rfl, nofun, fun _ => q⟩, nofun⟩
  | int i =>
    refine ⟨rfl, fun _ => ⟨rfl, fun _ => ⟨fun h => ?_, fun h => ?_⟩, nofun⟩, nofun⟩
    · have h : decide ((0 : Int) ≤ i) = true := h
      have e : isHr n (.int i) = decide (i < (n : Int)) := by show (decide (0 ≤ i) && decide (i < (n : Int))) = _; rw [h, Bool.true_and]
      rw [e] at q
      exact q
    · have h : decide ((0 : Int) ≤ i) = false := h
      have e : isHr n (.int i) = false := by show (decide (0 ≤ i) && decide (i < (n : Int))) = _; rw [h, Bool.false_and]
      rw [e] at q
      exact q
  | str z => exact ⟨rfl, nofun, fun _ => q⟩
  | list xs => exact ⟨rfl, nofun, fun _ => q⟩
  | tuple xs => exact ⟨rfl, nofun, fun _ => q⟩
  | dict es => simp [plainD] at hx
theorem getV_filter (st : List P2) (i : Int) : ((st.filter fun p => decide (p.1 = i)).map fun p => PyData.int p.2).head? = (match getV st i with
    | .none => none
    | z => some z) := by
  unfold getV
  rw [List.head?_map, List.head?_filter]
  cases st.find? fun p => decide (p.1 = i) <;> rfl
theorem getV_none (st : List P2) (i : Int) : isNone (getV st i) = (st.filter fun p => decide (p.1 = i)).isEmpty := by
  unfold getV
  cases e : st.find? fun p => decide (p.1 = i) with
  | none =>
    rw [List.find?_eq_none] at e
    have : (st.filter fun p => decide (p.1 = i)) = [] := List.filter_eq_nil_iff.mpr e
    rw [this]; rfl
  | some p =>
    have hm := List.mem_of_find?_eq_some e
    have hp := List.find?_some e
    have : p ∈ st.filter fun p => decide (p.1 = i) := List.mem_filter.mpr ⟨hm, hp⟩
    cases h : st.filter fun p => decide (p.1 = i) with
    | nil => rw [h] at this; cases this
    | cons a r => rfl
theorem filt_step {st : List P2} {i : Int} {j : Nat} {p : P2} (e : st[j]? = some p) : ((st.take (j + 1)).filter fun p => decide (p.1 = i)) = ((st.take j).filter fun p => decide (p.1 = i)) ++ (if p.1 = i then [p] else []) := by
  rw [List.take_add_one, e, Option.toList_some, List.filter_append]
  by_cases h : p.1 = i
  · rw [if_pos h, List.filter_cons_of_pos (by simpa using h)]; rfl
  · rw [if_neg h, List.filter_cons_of_neg (by simpa using h)]; rfl
theorem atI_zero (a : PD) (r : List PD) : atI (a :: r) 0 = some a := by
  have : ixN (a :: r).length 0 = some 0 := by
    unfold ixN
    rw [if_pos (by decide), if_pos (by rw [List.length_cons]; omega)]; rfl
  unfold atI
  rw [this]; rfl
def S_ldueget : FSpec := ⟨fun args Q => ∃ (n : Nat) (st un : List P2) (x : PD), args = [stL (some 0) st un, .d (.int (n : Nat)), .d x] ∧ plainD x = true ∧ st.length ≤ 8 ∧ Q (.d (getR n st x)) [stL (some 0) st un]⟩
abbrev N_law_due_get_5072 : List Str := ["state", "clock", "at", "place", "number"]
def ir_law_due_get_5072 (S_law_is_hour_b9ab : FSpec) : TSt :=
  (sSeq (sIf (tNotD (tVal (dFz (fCall S_law_is_hour_b9ab (aCons (.e (dVar 2)) (aCons (.e (dVar 1)) aNil)))))) (sRet (fD (dTup (aCons (.e (dC (.str "no number"))) (aCons (.e (dVar 2)) aNil))))) sNext)
    (sRet (fD (dBin bIx (.e (dBin bAdd (.e (dFz (fLc (iSeq (dBin bIx (.s 0) (.e (dC (.int 0))))) [3, 4] (.tp [3, 4]) (tVal (dBin cEq (.s 3) (.s 2))) (dVar 4)))) (.e (dFz (fLst (aCons (.e (dC (.none))) aNil)))))) (.e (dC (.int 0)))))))

theorem sp_ldueget : ∀ args Q, S_ldueget.sp args Q → ir_law_due_get_5072 S_ishr (endsOf args Q) (rho0 N_law_due_get_5072 args) := by
  rintro args Q ⟨n, st, un, x, rfl, hx, hl, q⟩
  have bigS : sizeLine = 16777216 := sizeLine_eq
  refine ⟨rfl, n, x, rfl, hx, ?_⟩
  unfold getR at q
  cases hi : isHr n x with
  | false =>
    rw [hi, if_neg (by decide)] at q
    exact ⟨fun _ => q, nofun⟩
  | true =>
    rw [hi, if_pos rfl] at q
    obtain ⟨ex, i0, i1⟩ := isHr_to hi
    obtain ⟨i, hi2⟩ : ∃ i, i = intP x := ⟨_, rfl⟩
    rw [← hi2] at ex q
    subst ex
    refine ⟨nofun, fun _ => ⟨_, rfl, ⟨rfl, rfl⟩, fun j acc ρ => acc = (((st.take j).filter fun p => decide (p.1 = i)).map fun p => PyData.int p.2) ∧ ρ = [some (stL (some 0) st un), some (.d (.int (n : Nat))), some (.d (.int i)), none, none], ⟨rfl, rfl⟩, fun _ _ _ _ => trivial, ?_, ?_⟩⟩
    · rintro j y acc ρ hy ⟨rfl, rfl⟩
      have hy : (st.map prI)[j]? = some y := hy
      rw [List.getElem?_map] at hy
      obtain ⟨p, hp, rfl⟩ := Option.map_eq_some_iff.mp hy
      have fs := filt_step (i := i) hp
      refine ⟨rfl, fun h => ⟨?_, ?_, rfl⟩, fun h => ⟨?_, rfl⟩⟩
      · have := List.length_filter_le (fun p : P2 => decide (p.1 = i)) (st.take j)
        rw [List.length_take] at this
        rw [List.length_map, bigS]; omega
      · have h : p.1 = i := of_decide_eq_true h
        rw [fs, if_pos h, List.map_append]; rfl
      · have h : ¬ p.1 = i := of_decide_eq_false h
        rw [fs, if_neg h, List.append_nil]
    · rintro acc ρ ⟨ha, rfl⟩
      have ha : acc = (((st.take (st.map prI).length).filter fun p => decide (p.1 = i)).map fun p => PyData.int p.2) := ha
      rw [List.length_map, List.take_length] at ha
      have hd := getV_filter st i
      rw [← ha] at hd
      have fl := List.length_filter_le (fun p : P2 => decide (p.1 = i)) st
      have la : acc.length ≤ 8 := by rw [ha, List.length_map]; omega
      refine ⟨by rw [bigS]; show acc.length + 1 ≤ 16777216; omega, _, ?_, q⟩
      show atI (acc ++ [PyData.none]) 0 = some (getV st i)
      have hn := getV_none st i
      cases acc with
      | nil =>
        have : (st.filter fun p => decide (p.1 = i)).isEmpty = true := by
          rw [eq_comm, List.map_eq_nil_iff] at ha
          rw [ha]; rfl
        rw [this] at hn
        cases e : getV st i <;> rw [e] at hn <;> simp [isNone] at hn
        exact atI_zero _ _
      | cons a r =>
        rw [List.head?_cons] at hd
        cases e : getV st i <;> rw [e] at hd <;> first | (cases hd; done) | (cases hd; exact atI_zero _ _)
def S_ldue : FSpec := ⟨fun args Q => ∃ (n : Nat) (st un : List P2) (x y : PD), args = [stL (some 0) st un, .d (.int (n : Nat)), .d x, .d y] ∧ plainD x = true ∧ plainD y = true ∧ st.length ≤ 8 ∧ Q (.d (setR n st x y)) [stL (some 0) (setS n st un x y).1 (setS n st un x y).2]⟩
abbrev N_law_due_7c00 : List Str := ["state", "clock", "at", "number", "place", "one"]
def ir_law_due_7c00 (S_law_is_hour_b9ab : FSpec) : TSt :=
  (sSeq (sIf (tNotD (tVal (dFz (fCall S_law_is_hour_b9ab (aCons (.e (dVar 2)) (aCons (.e (dVar 1)) aNil)))))) (sRet (fD (dTup (aCons (.e (dC (.str "no number"))) (aCons (.e (dVar 2)) aNil))))) sNext)
    (sSeq (sIf (tNotD (tVal (dFz (fCall S_law_is_hour_b9ab (aCons (.e (dVar 3)) (aCons (.e (dVar 1)) aNil)))))) (sRet (fD (dTup (aCons (.e (dC (.str "no number"))) (aCons (.e (dVar 3)) aNil))))) sNext)
    (sSeq (sIf (tVal (dBin cNe (.e (dFz (fLc (iSeq (dBin bIx (.s 0) (.e (dC (.int 0))))) [4, 5] (.tp [4, 5]) (tVal (dBin cEq (.s 4) (.s 2))) (dC (.int 1))))) (.e (dFz (fLst aNil))))) (sRet (fD (dTup (aCons (.e (dC (.str "told"))) (aCons (.e (dVar 2)) aNil))))) sNext)
    (sSeq (sIf (tVal (dBin cEq (.e (dBi bLen (aCons (.e (dBin bIx (.s 0) (.e (dC (.int 0))))) aNil))) (.e (dC (.int 8))))) (sRet (fD (dC (.str "full")))) sNext)
    (sSeq (sSetL 0 (.e (dC (.int 0))) (dBin bAdd (.e (dBin bIx (.s 0) (.e (dC (.int 0))))) (.e (dFz (fLst (aCons (.e (dTup (aCons (.e (dVar 2)) (aCons (.e (dVar 3)) aNil)))) aNil))))))
    (sSeq (sSetL 0 (.e (dC (.int 1))) (dFz (fLst aNil)))
    (sRet (fD (dC (.str "fine"))))))))))

theorem sp_ldue : ∀ args Q, S_ldue.sp args Q → ir_law_due_7c00 S_ishr (endsOf args Q) (rho0 N_law_due_7c00 args) := by
  rintro args Q ⟨n, st, un, x, y, rfl, hx, hy, hl, q⟩
  have bigS : sizeLine = 16777216 := sizeLine_eq
  have e0 : (st.map prI).length = st.length := List.length_map _
  refine ⟨rfl, n, x, rfl, hx, ?_⟩
  unfold setR setS at q
  cases hi : isHr n x with
  | false =>
    rw [hi] at q
    simp only [if_true] at q
    exact ⟨fun _ => q, nofun⟩
  | true =>
    rw [hi] at q
    simp only [Bool.true_eq_false, if_false] at q
    refine ⟨nofun, fun _ => ⟨rfl, n, y, rfl, hy, ?_⟩⟩
    cases hj : isHr n y with
    | false =>
      rw [hj] at q
      simp only [if_true] at q
      exact ⟨fun _ => q, nofun⟩
    | true =>
      rw [hj] at q
      simp only [Bool.true_eq_false, if_false] at q
      obtain ⟨ex, i0, i1⟩ := isHr_to hi
      obtain ⟨ey, j0, j1⟩ := isHr_to hj
      obtain ⟨i, hi2⟩ : ∃ i, i = intP x := ⟨_, rfl⟩
      obtain ⟨j, hj2⟩ : ∃ j, j = intP y := ⟨_, rfl⟩
      rw [← hi2] at ex q
      rw [← hj2] at ey q
      subst ex ey
      refine ⟨nofun, fun _ => ⟨_, rfl, ⟨rfl, rfl⟩, fun k acc ρ => acc = (((st.take k).filter fun p => decide (p.1 = i)).map fun _ => PyData.int 1) ∧ ρ = [some (stL (some 0) st un), some (.d (.int (n : Nat))), some (.d (.int i)), some (.d (.int j)), none, none], ⟨rfl, rfl⟩, fun _ _ _ _ => trivial, ?_, ?_⟩⟩
      · rintro k y acc ρ hy ⟨rfl, rfl⟩
        have hy : (st.map prI)[k]? = some y := hy
        rw [List.getElem?_map] at hy
        obtain ⟨p, hp, rfl⟩ := Option.map_eq_some_iff.mp hy
        have fs := filt_step (i := i) hp
        refine ⟨rfl, fun h => ⟨?_, ?_, rfl⟩, fun h => ⟨?_, rfl⟩⟩
        · have := List.length_filter_le (fun p : P2 => decide (p.1 = i)) (st.take k)
          rw [List.length_take] at this
          rw [List.length_map, bigS]; omega
        · have h : p.1 = i := of_decide_eq_true h
          rw [fs, if_pos h, List.map_append]; rfl
        · have h : ¬ p.1 = i := of_decide_eq_false h
          rw [fs, if_neg h, List.append_nil]
      · rintro acc ρ ⟨ha, rfl⟩
        have ha : acc = (((st.take (st.map prI).length).filter fun p => decide (p.1 = i)).map fun _ => PyData.int 1) := ha
        rw [List.length_map, List.take_length] at ha
        have hn := getV_none st i
        have sh0 : shp (.list ([] : List PD)) := (Shp.list (n := 0) (by simp)).shp
        have fm : (st.filter fun p => decide (p.1 = i)).isEmpty = acc.isEmpty := by
          rw [ha, List.isEmpty_map]
        rw [fm] at hn
        have sh1 : shp (.list acc) := (Shp.list (n := 0) fun x hx => by rw [ha] at hx; obtain ⟨_, _, rfl⟩ := List.mem_map.mp hx; exact .int _).shp
        refine ⟨sh1, sh0, fun h => ?_, fun h => ?_⟩
        · have h : (!PyData.eqv (.list acc) (.list [])) = true := h
          rw [eqv_nilD, ← hn] at h
          have h : isNone (getV st i) = false := by simpa using h
          rw [h] at q
          simp only [if_true] at q
          exact q
        · have h : (!PyData.eqv (.list acc) (.list [])) = false := h
          rw [eqv_nilD, ← hn] at h
          have h : isNone (getV st i) = true := by simpa using h
          rw [h] at q
          simp only [Bool.true_eq_false, if_false] at q
          refine ⟨_, rfl, fun h2 => ?_, fun h2 => ?_⟩
          · have h2 : ((st.map prI).length : Int) = 8 := of_decide_eq_true h2
            rw [if_pos (show st.length = 8 by omega), if_pos (show st.length = 8 by omega)] at q
            exact q
          · have h2 : ¬ ((st.map prI).length : Int) = 8 := of_decide_eq_false h2
            rw [if_neg (show ¬ st.length = 8 by omega), if_neg (show ¬ st.length = 8 by omega)] at q
            refine ⟨_, rfl, by rw [bigS]; show (st.map prI).length + 1 ≤ 16777216; omega, 0, rfl, 1, rfl, ?_⟩
            unfold stL at q
            rw [List.map_append] at q
            exact q
/-- values that are drawn -/
structure Vl (x : PD) : Prop where
  pl : plainD x = true
  sh : Shw 2 200 x
theorem Vl.int {i : Int} (h : i.natAbs < 2 ^ 140) : Vl (.int i) := ⟨rfl, (Shw.int (n := 0) (k := 140) h).mono (by decide) (by decide)⟩
def S_lodd : FSpec := ⟨fun args Q => ∃ (B n : Nat) (dk : List PD), args = [.ls (some 0) dk, .d (.int (n : Nat))] ∧ Dk (B + 2) dk ∧ (0 < n ∧ n ≤ 61) ∧ ∀ x dk', Vl x → Dk B dk' → Q (.d x) [.ls (some 0) dk']⟩
abbrev N_law_odd_ed94 : List Str := ["deck", "clock", "some"]
def ir_law_odd_ed94 (S_law_one_90da : FSpec) (S_law_draw_a51a : FSpec) : TSt :=
  (sSeq (sAsg 2 (fLst (aCons (.e (dC (.none))) (aCons (.e (dC (.bool true))) (aCons (.e (dC (.bool false))) (aCons (.e (dC (.str ""))) (aCons (.e (dC (.str "0"))) (aCons (.e (dTup aNil)) (aCons (.e (dTup (aCons (.e (dC (.int 0))) aNil))) (aCons (.e (dFz (fLst aNil))) (aCons (.e (dFz (fLst (aCons (.e (dC (.int 1))) aNil)))) (aCons (.e (dNeg (.e (dC (.int 1))))) (aCons (.e (dVar 1)) (aCons (.e (dBin bAdd (.s 1) (.e (dC (.int 1))))) (aCons (.e (dBin bSub (.e (dC (.int 0))) (.s 1))) (aCons (.e (dBin bPow (.e (dC (.int 10))) (.e (dC (.int 40))))) (aCons (.e (dTup (aCons (.e (dC (.int 0))) (aCons (.e (dC (.int 0))) aNil)))) aNil)))))))))))))))))
    (sRet (fCall S_law_one_90da (aCons (.s 0) (aCons (.e (dBin bAdd (.s 2) (.e (dFz (fLst (aCons (.e (dFz (fCall S_law_draw_a51a (aCons (.s 0) (aCons (.e (dVar 1)) aNil))))) aNil)))))) aNil)))))

theorem sp_lodd : ∀ args Q, S_lodd.sp args Q → ir_law_odd_ed94 S_one S_draw (endsOf args Q) (rho0 N_law_odd_ed94 args) := by
  rintro args Q ⟨B, n, dk, rfl, hd, ⟨n0, n1⟩, q⟩
  have bigS : sizeLine = 16777216 := sizeLine_eq
  refine ⟨?_, rfl, B + 1, dk, ((n : Nat) : Int), rfl, hd, ⟨by omega, log2_const (k := 6) (by rw [Int.natAbs_natCast]; omega)⟩, fun r dk1 r0 r1 d1 => ?_⟩
  · exact powOk (k := 4) (m := 40) (by decide) (by decide) (by decide)
  refine ⟨by rw [bigS]; show (16 : Nat) ≤ 16777216; decide, rfl, B, dk1, _, rfl, d1, ⟨Nat.succ_pos _, by show 16 < 2 ^ 60; decide⟩, fun x dk2 hx d2 => ?_⟩
  refine q x dk2 ?_ d2
  have all : ∀ x ∈ ([PyData.none, PyData.bool true, PyData.bool false, PyData.str "", PyData.str "0", PyData.tuple [], PyData.tuple [PyData.int 0], PyData.list [], PyData.list [PyData.int 1], PyData.int (-1), PyData.int ((n : Nat) : Int), PyData.int (((n : Nat) : Int) + 1), PyData.int (0 - ((n : Nat) : Int)), PyData.int (10 ^ Int.toNat 40), PyData.tuple [PyData.int 0, PyData.int 0], PyData.int r] : List PD), Vl x := by
    simp only [List.forall_mem_cons]
    have z1 : Shw 0 200 (.int (0 : Int)) := (Shw.int (k := 1) (by decide)).mono (Nat.le_refl _) (by decide)
    have tup1 : Shw 1 100 (.tuple [PyData.int 0]) := (Shw.tup (n := 0) (z := 2) fun y hy => by rw [List.mem_singleton.mp hy]; exact Shw.int (k := 1) (by decide)).mono (Nat.le_refl _) (by decide)
    have tup2 : Shw 1 100 (.tuple [PyData.int 0, PyData.int 0]) := (Shw.tup (n := 0) (z := 2) fun y hy => by
      simp only [List.mem_cons, List.not_mem_nil, or_false, or_self] at hy
      rw [hy]; exact Shw.int (k := 1) (by decide)).mono (Nat.le_refl _) (by decide)
    have tup0 : Shw 1 100 (.tuple []) := (Shw.tup (n := 0) (z := 2) fun y hy => by cases hy).mono (Nat.le_refl _) (by decide)
    have lst0 : Shw 1 100 (.list []) := (Shw.list (n := 0) (z := 2) fun y hy => by cases hy).mono (Nat.le_refl _) (by decide)
    have lst1 : Shw 1 100 (.list [PyData.int 1]) := (Shw.list (n := 0) (z := 2) fun y hy => by rw [List.mem_singleton.mp hy]; exact Shw.int (k := 1) (by decide)).mono (Nat.le_refl _) (by decide)
    exact ⟨⟨rfl, (Shw.non (n := 0)).mono (by decide) (by decide)⟩, ⟨rfl, (Shw.bl (n := 0) true).mono (by decide) (by decide)⟩, ⟨rfl, (Shw.bl (n := 0) false).mono (by decide) (by decide)⟩, ⟨rfl, (Shw.str (n := 0) (z := 20) (by decide +kernel)).mono (by decide) (by decide)⟩, ⟨rfl, (Shw.str (n := 0) (z := 20) (by decide +kernel)).mono (by decide) (by decide)⟩,
      ⟨rfl, tup0.mono (by decide) (by decide)⟩, ⟨rfl, tup1.mono (by decide) (by decide)⟩, ⟨rfl, lst0.mono (by decide) (by decide)⟩, ⟨rfl, lst1.mono (by decide) (by decide)⟩, .int (by decide), .int (by omega), .int (by omega), .int (by omega), .int (by decide), ⟨rfl, tup2.mono (by decide) (by decide)⟩, .int (by omega), fun y hy => by cases hy⟩
  exact all x hx
def DRel (n : Nat) (st un : List P2) : Prop := DOk n st un
theorem getV_cases (st : List P2) (i : Int) : getV st i = .none ∨ ∃ p ∈ st, getV st i = .int p.2 := by
  unfold getV
  cases e : st.find? fun p => decide (p.1 = i) with
  | none => exact .inl rfl
  | some p => exact .inr ⟨p, List.mem_of_find?_eq_some e, rfl⟩
theorem nn_text : (reprText "no number").length ≤ 20 := by decide +kernel
theorem tl_text : (reprText "told").length ≤ 20 := by decide +kernel
theorem full_text : (reprText "full").length ≤ 20 := by decide +kernel
theorem fine_text : (reprText "fine").length ≤ 20 := by decide +kernel
theorem nothing_text : (reprText "nothing").length ≤ 20 := by decide +kernel
theorem two_shwD {z : Str} {x : PD} (hz : (reprText z).length ≤ 20) (hx : Shw 2 200 x) : Shw 3 500 (.tuple [.str z, x]) := (Shw.tup (n := 2) (z := 200) fun y hy => by
  simp only [List.mem_cons, List.not_mem_nil, or_false] at hy
  rcases hy with rfl | rfl
  · exact (Shw.str hz).mono (Nat.le_refl _) (by decide)
  · exact hx).mono (by decide) (by show 3 + 2 * 202 ≤ 500; decide)
theorem getV_shw {n : Nat} {st : List P2} (n1 : n ≤ 61) (h : ∀ p ∈ st, HrP n p) (i : Int) : Shw 0 8 (getV st i) := by
  rcases getV_cases st i with e | ⟨p, hp, e⟩
  · rw [e]; exact Shw.non.mono (Nat.le_refl _) (by decide)
  · rw [e]
    obtain ⟨_, h1, h2⟩ := h p hp
    exact (Shw.int (k := 7) (by omega)).mono (Nat.le_refl _) (by decide)
theorem getR_shw {n : Nat} {st : List P2} {x : PD} (n1 : n ≤ 61) (h : ∀ p ∈ st, HrP n p) (hx : Vl x) : Shw 3 500 (getR n st x) := by
  unfold getR
  split
  · exact (getV_shw n1 h _).mono (by decide) (by decide)
  · exact two_shwD nn_text hx.sh
theorem setR_shw {n : Nat} {st : List P2} {x y : PD} (hx : Vl x) (hy : Vl y) : Shw 3 500 (setR n st x y) := by
  unfold setR
  split
  · exact two_shwD nn_text hx.sh
  · split
    · exact two_shwD nn_text hy.sh
    · split
      · exact two_shwD tl_text hx.sh
      · split
        · exact (Shw.str full_text).mono (Nat.le_refl _) (by decide)
        · exact (Shw.str fine_text).mono (Nat.le_refl _) (by decide)
theorem lastR_shw {n : Nat} {st : List P2} (n1 : n ≤ 61) (h : ∀ p ∈ st, HrP n p) : Shw 3 500 (lastR st) := by
  unfold lastR
  split
  · rename_i p e
    obtain ⟨⟨h1, h2⟩, _⟩ := h p (List.mem_of_getLast? e)
    exact (Shw.int (n := 0) (k := 7) (by omega)).mono (by decide) (by decide)
  · exact (Shw.str nothing_text).mono (Nat.le_refl _) (by decide)
theorem setS_ok {n : Nat} {st un : List P2} {x y : PD} (h : DOk n st un) : DOk n (setS n st un x y).1 (setS n st un x y).2 := by
  unfold setS
  split
  · exact h
  · rename_i h1
    split
    · exact h
    · rename_i h2
      split
      · exact h
      · split
        · exact h
        · rename_i h3
          obtain ⟨_, i0, i1⟩ := isHr_to (n := n) (x := x) (by simpa using h1)
          obtain ⟨_, j0, j1⟩ := isHr_to (n := n) (x := y) (by simpa using h2)
          have := h.ln
          refine ⟨h.n0, h.n1, by rw [List.length_append]; show st.length + 1 + 0 ≤ 8; omega, fun p hp => ?_, by simp⟩
          rcases List.mem_append.mp hp with hp | hp
          · exact h.sb p hp
          · rw [List.mem_singleton] at hp; subst hp; exact ⟨⟨i0, i1⟩, j0, j1⟩
theorem lastS_ok {n : Nat} {st un : List P2} (h : DOk n st un) : DOk n (lastS st un).1 (lastS st un).2 := by
  unfold lastS
  split
  · rename_i p e
    have hp := h.sb p (List.mem_of_getLast? e)
    have ne : st ≠ [] := by intro z; rw [z] at e; simp at e
    have hl : 0 < st.length := List.length_pos_iff.mpr ne
    have := h.ln
    refine ⟨h.n0, h.n1, by rw [List.length_dropLast, List.length_append]; show st.length - 1 + (un.length + 1) ≤ 8; omega, fun p hp => h.sb p (List.dropLast_subset _ hp), fun p' hp' => ?_⟩
    rcases List.mem_append.mp hp' with hp' | hp'
    · exact h.ub p' hp'
    · rw [List.mem_singleton] at hp'; subst hp'; exact hp
  · exact h
theorem DOk.swap {n : Nat} {st un : List P2} (h : DOk n st un) : DOk n un st := ⟨h.n0, h.n1, by have := h.ln; omega, h.ub, h.sb⟩
/-! ### what the law sees of a dial -/
def S_lget (C : Addr) : FSpec := ⟨fun args Q => ∃ (n : Nat) (b d : Addr) (st un : List P2) (x : PD), args = [dl (some 0) C n b d st un, .d x] ∧ plainD x = true ∧ Q (.d (getR n st x)) [dl (some 0) C n b d st un]⟩
def S_lset (C : Addr) : FSpec := ⟨fun args Q => ∃ (n : Nat) (b d : Addr) (st un : List P2) (x y : PD), args = [dl (some 0) C n b d st un, .d x, .d y] ∧ st.length ≤ 8 ∧ plainD x = true ∧ plainD y = true ∧ ∀ d', Q (.d (setR n st x y)) [dl (some 0) C n b d' (setS n st un x y).1 (setS n st un x y).2]⟩
def S_lundo (C : Addr) : FSpec := ⟨fun args Q => ∃ (n : Nat) (b d : Addr) (st un : List P2), args = [dl (some 0) C n b d st un] ∧ un.length ≤ 8 ∧ Q (.d (lastR st)) [dl (some 0) C n b d (lastS st un).1 (lastS st un).2]⟩
def S_lredo (C : Addr) : FSpec := ⟨fun args Q => ∃ (n : Nat) (b d : Addr) (st un : List P2), args = [dl (some 0) C n b d st un] ∧ st.length ≤ 8 ∧ Q (.d (lastR un)) [dl (some 0) C n b d (lastS un st).2 (lastS un st).1]⟩
def hrsL (n : Nat) (st : List P2) (j : Nat) : List PD := (List.range j).map fun a => getR n st (.int ((a : Nat) : Int))
theorem hrsL_step (n : Nat) (st : List P2) (j : Nat) : hrsL n st j ++ [getR n st (.int ((j : Nat) : Int))] = hrsL n st (j + 1) := by
  unfold hrsL; rw [List.range_succ, List.map_append]; rfl
theorem hrsL_len (n : Nat) (st : List P2) (j : Nat) : (hrsL n st j).length = j := by unfold hrsL; rw [List.length_map, List.length_range]
theorem srt_shw {n : Nat} {st : List P2} (n1 : n ≤ 61) (hl : st.length ≤ 8) (h : ∀ p ∈ st, HrP n p) : Shw 2 1000 (.tuple ((srtP st).map prI)) := by
  have hp := srtP_perm st
  refine (Shw.tup (n := 1) (z := 60) fun x hx => ?_).mono (Nat.le_refl _) (by rw [List.length_map, hp.length_eq]; omega)
  obtain ⟨p, hp2, rfl⟩ := List.mem_map.mp hx
  obtain ⟨⟨h1, h2⟩, h3, h4⟩ := h p (hp.mem_iff.mp hp2)
  refine (Shw.tup (n := 0) (z := 20) fun y hy => ?_).mono (Nat.le_refl _) (by show 3 + 2 * (20 + 2) ≤ 60; decide)
  simp only [List.mem_cons, List.not_mem_nil, or_false] at hy
  rcases hy with rfl | rfl
  · exact (Shw.int (k := 7) (by omega)).mono (Nat.le_refl _) (by decide)
  · exact (Shw.int (k := 7) (by omega)).mono (Nat.le_refl _) (by decide)
theorem held_shw {n : Nat} {st un : List P2} (ok : DOk n st un) : Shw 5 100000 (.list [.tuple ((srtP st).map prI), .int ((st.length : Nat) : Int), .list (hrsL n st n)]) := by
  have n1 := ok.n1
  have hl := ok.ln
  refine (Shw.list (n := 4) (z := 33000) fun x hx => ?_).mono (Nat.le_refl _) (by show 2 + 3 * (33000 + 2) ≤ 100000; decide)
  simp only [List.mem_cons, List.not_mem_nil, or_false] at hx
  rcases hx with rfl | rfl | rfl
  · exact (srt_shw n1 (by omega) ok.sb).mono (by decide) (by decide)
  · exact (Shw.int (n := 0) (k := 7) (by rw [Int.natAbs_natCast]; omega)).mono (by decide) (by decide)
  · refine (Shw.list (n := 3) (z := 500) fun y hy => ?_).mono (Nat.le_refl _) (by rw [hrsL_len]; omega)
    obtain ⟨a, ha, rfl⟩ := List.mem_map.mp hy
    have := List.mem_range.mp ha
    exact getR_shw n1 ok.sb (.int (by omega))
def S_held (C : Addr) : FSpec := ⟨fun args Q => ∃ (n : Nat) (b d : Addr) (st un : List P2), args = [dl (some 0) C n b d st un, stL (some 1) st un, .d (.int (n : Nat))] ∧ DOk n st un ∧ Q (.d (.bool true)) [dl (some 0) C n b d st un, stL (some 1) st un]⟩
abbrev N_law_held_2b08 : List Str := ["dial", "state", "clock", "due", "at"]
def ir_law_held_2b08 (C_Dial : Addr) (S_law_due_get_5072 : FSpec) (S_law_get_4e47_e : FSpec) (S_m_Dial_len : FSpec) (S_m_Dial_told : FSpec) : TSt :=
  (sSeq (sAsg 3 (fLst (aCons (.e (dBi bTuple (aCons (.e (dBi (bSortP 1000) (aCons (.e (dBin bIx (.s 1) (.e (dC (.int 0))))) aNil))) aNil))) (aCons (.e (dBi bLen (aCons (.e (dBin bIx (.s 1) (.e (dC (.int 0))))) aNil))) (aCons (.e (dFz (fLc (iRg (aCons (.s 2) aNil)) [4] (.nm 4) cYes (dFz (fCall S_law_due_get_5072 (aCons (.s 1) (aCons (.e (dVar 2)) (aCons (.e (dVar 4)) aNil)))))))) aNil)))))
    (sRet (fD (dBin cEq (.e (dBi bRepr (aCons (.e (dFz (fLst (aCons (.e (dFz (fMthS C_Dial "told" S_m_Dial_told 0 aNil))) (aCons (.e (dLenS C_Dial S_m_Dial_len 0)) (aCons (.e (dFz (fLc (iRg (aCons (.s 2) aNil)) [4] (.nm 4) cYes (dFz (fCall S_law_get_4e47_e (aCons (.s 0) (aCons (.e (dVar 4)) aNil))))))) aNil)))))) aNil))) (.e (dBi bRepr (aCons (.s 3) aNil)))))))

theorem same_d (s : Str) : PyData.bool true = .bool (decide (s = s)) := by rw [decide_eq_true rfl]
theorem sp_held (C : Addr) : ∀ args Q, (S_held C).sp args Q → ir_law_held_2b08 C S_ldueget (S_lget C) (S_dlen C) (S_dtold C) (endsOf args Q) (rho0 N_law_held_2b08 args) := by
  rintro args Q ⟨n, b, d, st, un, rfl, ok, q⟩
  have bigS : sizeLine = 16777216 := sizeLine_eq
  have hl := ok.ln
  have n1 := ok.n1
  have enn : ((n : Nat) : Int).toNat = n := rfl
  have elen : (st.map prI).length = st.length := List.length_map _
  have sh := held_shw ok
  refine ⟨_, rfl, st, rfl, by omega, fun p hp => ?_, fun qs h1 h2 => ?_⟩
  · obtain ⟨⟨a1, a2⟩, a3, a4⟩ := ok.sb p hp
    exact ⟨⟨a1, by omega⟩, a3, by omega⟩
  rw [srtP_uniq h1 h2]
  refine ⟨_, rfl, by omega, ⟨rfl, rfl⟩, fun j acc ρ => acc = hrsL n st j ∧ ρ = [some (dl (some 0) C n b d st un), some (stL (some 1) st un), some (.d (.int (n : Nat))), none, none], ⟨rfl, rfl⟩, fun _ _ _ _ => trivial, ?_, ?_⟩
  · rintro j y acc ρ hy ⟨rfl, rfl⟩
    obtain ⟨rfl, hj⟩ := rngD_get hy
    have e0 : (0 : Int) + (j : Nat) = (j : Nat) := by omega
    rw [e0]
    rw [enn] at hj
    exact ⟨fun _ => ⟨rfl, n, st, un, _, rfl, rfl, by omega, by rw [hrsL_len, bigS]; omega, hrsL_step n st j, rfl⟩, nofun⟩
  rintro acc ρ ⟨ha, rfl⟩
  have el : (Wk.items (rngD 0 ((n : Nat) : Int).toNat)).list.length = n := by show (rngD 0 _).length = _; rw [rngD_len, enn]
  rw [el] at ha
  subst ha
  obtain ⟨hr, hhr⟩ : ∃ hr, hr = hrsL n st n := ⟨_, rfl⟩
  rw [← hhr] at sh ⊢
  rw [elen]
  refine ⟨rfl, rfl, rfl, rfl, n, b, d, st, un, rfl, ok, rfl, rfl, rfl, rfl, n, b, d, st, un, rfl, st.length, rfl, by omega, ?_⟩
  refine ⟨by omega, ⟨rfl, rfl⟩, fun j acc ρ => acc = hrsL n st j ∧ ρ = [some (dl (some 0) C n b d st un), some (stL (some 1) st un), some (.d (.int (n : Nat))), some (.ls none [.tuple ((srtP st).map prI), .int ((st.length : Nat) : Int), .list hr]), none], ⟨rfl, rfl⟩, fun _ _ _ _ => trivial, ?_, ?_⟩
  · rintro j y acc ρ hy ⟨rfl, rfl⟩
    obtain ⟨rfl, hj⟩ := rngD_get hy
    have e0 : (0 : Int) + (j : Nat) = (j : Nat) := by omega
    rw [e0]
    rw [enn] at hj
    exact ⟨fun _ => ⟨rfl, n, b, d, st, un, _, rfl, rfl, by rw [hrsL_len, bigS]; omega, hrsL_step n st j, rfl⟩, nofun⟩
  rintro acc ρ ⟨ha, rfl⟩
  rw [el, ← hhr] at ha
  subst ha
  refine ⟨sh.ok, sh.ok, ?_⟩
  rw [same_d] at q
  exact q
end DL
/-! k56: dials taken back. -/
namespace DL
open PySem L2 PyProof.Rows
abbrev N_law_get_4e47_e : List Str := ["dial", "at", "e"]
def ir_law_get_4e47_e (C_Dial : Addr) (C_HourError : Addr) (C_NoHour : Addr) (C_Told : Addr) (C_Full : Addr) (C_NothingTold : Addr) (C_NothingUndone : Addr) (S_m_Dial_getitem_e : XSpec) : TSt :=
  (sTry (fun u => (sRet (fSubSX C_Dial S_m_Dial_getitem_e u 0 (dVar 1)))) (⟨[(C_NoHour, true), (C_Told, false), (C_Full, false), (C_NothingTold, false), (C_NothingUndone, false)], some 2, fun a C d => (sRet (fD (dTup (aCons (.e (dC (.str "no number"))) (aCons (.e (dXf C_NoHour a C d 2 "value")) aNil)))))⟩ :: (⟨[(C_Told, true), (C_Full, true), (C_NothingTold, true), (C_NothingUndone, true)], none, fun a C d => (sRet (fD (dC (.str "other"))))⟩ :: [])))

theorem sp_lget (C CH CN CT CF CE CU : Addr) : ∀ args Q, (S_lget C).sp args Q → ir_law_get_4e47_e C CH CN CT CF CE CU (S_getX C CN) (endsOf args Q) (rho0 N_law_get_4e47_e args) := by
  rintro args Q ⟨n, b, d, st, un, x, rfl, hx, q⟩
  unfold getR at q
  refine ⟨rfl, rfl, rfl, rfl, rfl, rfl, rfl, n, b, d, st, un, x, rfl, hx, fun i ei i0 i1 => ?_, fun h => ⟨true, List.mem_cons_self, nofun, fun _ a dd hd => ?_⟩⟩
  · subst ei
    have h : isHr n (.int i) = true := by show (decide (0 ≤ i) && decide (i < (n : Int))) = true; rw [decide_eq_true i0, decide_eq_true i1]; rfl
    rw [h] at q
    simp only [if_true] at q
    exact q
  · rw [h] at q
    simp only [Bool.false_eq_true, if_false] at q
    exact ⟨rfl, _, _, rfl, hd, rfl, q⟩
abbrev N_law_set_a42b_e : List Str := ["dial", "at", "number", "e"]
def ir_law_set_a42b_e (C_Dial : Addr) (C_HourError : Addr) (C_NoHour : Addr) (C_Told : Addr) (C_Full : Addr) (C_NothingTold : Addr) (C_NothingUndone : Addr) (S_m_Dial_setitem_e : XSpec) : TSt :=
  (sSeq (sTry (fun u => (sSetSX C_Dial S_m_Dial_setitem_e u 0 (dVar 1) (dVar 2))) (⟨[(C_NoHour, true), (C_Told, false), (C_Full, false), (C_NothingTold, false), (C_NothingUndone, false)], some 3, fun a C d => (sRet (fD (dTup (aCons (.e (dC (.str "no number"))) (aCons (.e (dXf C_NoHour a C d 3 "value")) aNil)))))⟩ :: (⟨[(C_Told, true), (C_Full, false), (C_NothingTold, false), (C_NothingUndone, false)], some 3, fun a C d => (sRet (fD (dTup (aCons (.e (dC (.str "told"))) (aCons (.e (dXf C_Told a C d 3 "at")) aNil)))))⟩ :: (⟨[(C_Full, true), (C_NothingTold, false), (C_NothingUndone, false)], some 3, fun a C d => (sRet (fD (dIte (tAndD (tVal (dXi C_Full true a C d 3)) (tVal (dXi C_Full true a C d 3))) (dC (.str "full")) (dC (.str "other")))))⟩ :: (⟨[(C_NothingTold, true), (C_NothingUndone, true)], none, fun a C d => (sRet (fD (dC (.str "other"))))⟩ :: [])))))
    (sRet (fD (dC (.str "fine")))))

theorem sp_lset (C CH CN CT CF CE CU : Addr) : ∀ args Q, (S_lset C).sp args Q → ir_law_set_a42b_e C CH CN CT CF CE CU (S_setX C CN CT CF) (endsOf args Q) (rho0 N_law_set_a42b_e args) := by
  rintro args Q ⟨n, b, d, st, un, x, y, rfl, hl, hx, hy, q⟩
  unfold setR setS at q
  refine ⟨rfl, rfl, rfl, rfl, rfl, rfl, rfl, n, b, d, st, un, x, y, rfl, hl, hx, hy, fun h => ⟨true, List.mem_cons_self, nofun, fun _ a dd hd => ?_⟩, fun h1 h => ⟨true, List.mem_cons_self, nofun, fun _ a dd hd => ?_⟩, fun i j ei ej hi hj => ?_⟩
  · have q := q d
    rw [h] at q
    simp only [if_true] at q
    exact ⟨rfl, _, _, rfl, hd, rfl, q⟩
  · have q := q d
    rw [h1, h] at q
    simp only [Bool.true_eq_false, if_false, if_true] at q
    exact ⟨rfl, _, _, rfl, hd, rfl, q⟩
  · subst ei ej
    have h1 : isHr n (.int i) = true := by show (decide (0 ≤ i) && decide (i < (n : Int))) = true; rw [decide_eq_true hi.1, decide_eq_true hi.2]; rfl
    have h2 : isHr n (.int j) = true := by show (decide (0 ≤ j) && decide (j < (n : Int))) = true; rw [decide_eq_true hj.1, decide_eq_true hj.2]; rfl
    rw [h1, h2] at q
    simp only [Bool.true_eq_false, if_false] at q
    have q : ∀ d', Q (.d (if isNone (getV st i) = false then tlR (.int i) else if st.length = 8 then .str "full" else .str "fine")) [dl (some 0) C n b d' (if isNone (getV st i) = false then (st, un) else if st.length = 8 then (st, un) else (st ++ [(i, j)], [])).1 (if isNone (getV st i) = false then (st, un) else if st.length = 8 then (st, un) else (st ++ [(i, j)], [])).2] := q
    refine ⟨fun h => ⟨false, (List.mem_cons_of_mem _ List.mem_cons_self), fun _ => ⟨true, List.mem_cons_self, nofun, fun _ a dd hd => ?_⟩, nofun⟩, fun h h8 => ⟨false, (List.mem_cons_of_mem _ (List.mem_cons_of_mem _ List.mem_cons_self)), fun _ => ⟨false, (List.mem_cons_of_mem _ List.mem_cons_self), fun _ => ⟨true, List.mem_cons_self, nofun, fun _ a dd hd => ?_⟩, nofun⟩, nofun⟩, fun h h8 d' => ?_⟩
    · have q := q d
      rw [h] at q
      simp only [if_true] at q
      exact ⟨rfl, _, _, rfl, hd, rfl, q⟩
    · have q := q d
      rw [h, if_pos h8, if_pos h8] at q
      simp only [Bool.true_eq_false, if_false] at q
      exact ⟨rfl, _, rfl, fun _ => ⟨rfl, _, rfl, fun _ => q, nofun⟩, nofun⟩
    · have q := q d'
      rw [h, if_neg h8, if_neg h8] at q
      simp only [Bool.true_eq_false, if_false] at q
      exact q
abbrev N_law_undo_81c7_e : List Str := ["dial", "e"]
def ir_law_undo_81c7_e (C_Dial : Addr) (C_HourError : Addr) (C_NoHour : Addr) (C_Told : Addr) (C_Full : Addr) (C_NothingTold : Addr) (C_NothingUndone : Addr) (S_m_Dial_undo_e : XSpec) : TSt :=
  (sTry (fun u => (sRet (fMthSX C_Dial "undo" S_m_Dial_undo_e u 0 aNil))) (⟨[(C_NoHour, false), (C_Told, false), (C_Full, false), (C_NothingTold, true), (C_NothingUndone, false)], some 1, fun a C d => (sRet (fD (dIte (tAndD (tVal (dXi C_NothingTold true a C d 1)) (tVal (dXi C_NothingTold true a C d 1))) (dC (.str "nothing")) (dC (.str "other")))))⟩ :: (⟨[(C_NoHour, true), (C_Told, true), (C_Full, true), (C_NothingUndone, true)], none, fun a C d => (sRet (fD (dC (.str "other"))))⟩ :: [])))

theorem sp_lundo (C CH CN CT CF CE CU : Addr) : ∀ args Q, (S_lundo C).sp args Q → ir_law_undo_81c7_e C CH CN CT CF CE CU (S_undoX C CE) (endsOf args Q) (rho0 N_law_undo_81c7_e args) := by
  rintro args Q ⟨n, b, d, st, un, rfl, hl, q⟩
  unfold lastR lastS at q
  refine ⟨rfl, rfl, rfl, rfl, n, b, d, st, un, rfl, hl, fun h => ⟨true, (List.mem_cons_of_mem _ (List.mem_cons_of_mem _ (List.mem_cons_of_mem _ List.mem_cons_self))), nofun, fun _ a dd hd => ?_⟩, fun p hp => ?_⟩
  · subst h
    exact ⟨rfl, _, rfl, fun _ => ⟨rfl, _, rfl, fun _ => q, nofun⟩, nofun⟩
  · rw [hp] at q
    exact q
abbrev N_law_redo_d6e1_e : List Str := ["dial", "e"]
def ir_law_redo_d6e1_e (C_Dial : Addr) (C_HourError : Addr) (C_NoHour : Addr) (C_Told : Addr) (C_Full : Addr) (C_NothingTold : Addr) (C_NothingUndone : Addr) (S_m_Dial_redo_e : XSpec) : TSt :=
  (sTry (fun u => (sRet (fMthSX C_Dial "redo" S_m_Dial_redo_e u 0 aNil))) (⟨[(C_NoHour, false), (C_Told, false), (C_Full, false), (C_NothingTold, false), (C_NothingUndone, true)], some 1, fun a C d => (sRet (fD (dIte (tAndD (tVal (dXi C_NothingUndone true a C d 1)) (tVal (dXi C_NothingUndone true a C d 1))) (dC (.str "nothing")) (dC (.str "other")))))⟩ :: (⟨[(C_NoHour, true), (C_Told, true), (C_Full, true), (C_NothingTold, true)], none, fun a C d => (sRet (fD (dC (.str "other"))))⟩ :: [])))

theorem sp_lredo (C CH CN CT CF CE CU : Addr) : ∀ args Q, (S_lredo C).sp args Q → ir_law_redo_d6e1_e C CH CN CT CF CE CU (S_redoX C CU) (endsOf args Q) (rho0 N_law_redo_d6e1_e args) := by
  rintro args Q ⟨n, b, d, st, un, rfl, hl, q⟩
  unfold lastR lastS at q
  refine ⟨rfl, rfl, rfl, rfl, n, b, d, st, un, rfl, hl, fun h => ⟨true, (List.mem_cons_of_mem _ (List.mem_cons_of_mem _ (List.mem_cons_of_mem _ (List.mem_cons_of_mem _ List.mem_cons_self)))), nofun, fun _ a dd hd => ?_⟩, fun p hp => ?_⟩
  · subst h
    exact ⟨rfl, _, rfl, fun _ => ⟨rfl, _, rfl, fun _ => q, nofun⟩, nofun⟩
  · rw [hp] at q
    exact q

theorem cut_end (xs : List PD) (y : PD) : cutD (xs ++ [y]) (some (-1)) none = [y] := by
  unfold cutD
  have e1 : HT.sIx (xs ++ [y]).length 0 (some (-1)) = xs.length := by
    unfold HT.sIx
    rw [List.length_append]
    show ((-1 : Int) + ((xs.length + 1 : Nat) : Int)).toNat = _
    omega
  rw [HT.sIx_none, e1, List.length_append]
  show ((xs ++ [y]).drop xs.length).take (xs.length + 1 - xs.length) = [y]
  rw [List.drop_left, Nat.add_sub_cancel_left]; rfl
theorem cut_begin (xs : List PD) (y : PD) : cutD (xs ++ [y]) none (some (-1)) = xs := by
  unfold cutD
  have e1 : HT.sIx (xs ++ [y]).length (xs ++ [y]).length (some (-1)) = xs.length := by
    unfold HT.sIx
    rw [List.length_append]
    show ((-1 : Int) + ((xs.length + 1 : Nat) : Int)).toNat = _
    omega
  rw [HT.sIx_none, e1, List.drop_zero, Nat.sub_zero, List.take_left]
def S_dundo : FSpec := ⟨fun args Q => ∃ (st un : List P2), args = [stL (some 0) st un] ∧ st.length + un.length ≤ 8 ∧ Q (.d (lastR st)) [stL (some 0) (lastS st un).1 (lastS st un).2]⟩
def S_dredo : FSpec := ⟨fun args Q => ∃ (st un : List P2), args = [stL (some 0) st un] ∧ st.length + un.length ≤ 8 ∧ Q (.d (lastR un)) [stL (some 0) (lastS un st).2 (lastS un st).1]⟩
abbrev N_law_due_undo_8883 : List Str := ["state"]
def ir_law_due_undo_8883 : TSt :=
  (sSeq (sIf (tVal (dBin cEq (.e (dBin bIx (.s 0) (.e (dC (.int 0))))) (.e (dFz (fLst aNil))))) (sRet (fD (dC (.str "nothing")))) sNext)
    (sSeq (sSetL 0 (.e (dC (.int 1))) (dBin bAdd (.e (dBin bIx (.s 0) (.e (dC (.int 1))))) (.e (dSl (.e (dBin bIx (.s 0) (.e (dC (.int 0))))) (pSome (.e (dNeg (.e (dC (.int 1)))))) pNone))))
    (sSeq (sSetL 0 (.e (dC (.int 0))) (dSl (.e (dBin bIx (.s 0) (.e (dC (.int 0))))) pNone (pSome (.e (dNeg (.e (dC (.int 1))))))))
    (sRet (fD (dBin bIx (.e (dBin bIx (.e (dBin bIx (.s 0) (.e (dC (.int 1))))) (.e (dNeg (.e (dC (.int 1))))))) (.e (dC (.int 0)))))))))

theorem sp_dundo : ∀ args Q, S_dundo.sp args Q → ir_law_due_undo_8883 (endsOf args Q) (rho0 N_law_due_undo_8883 args) := by
  rintro args Q ⟨st, un, rfl, hl, q⟩
  have bigS : sizeLine = 16777216 := sizeLine_eq
  have sh0 : shp (.list ([] : List PD)) := (Shp.list (n := 0) (by simp)).shp
  unfold lastR lastS at q
  rcases List.eq_nil_or_concat st with rfl | ⟨ss, p, rfl⟩
  · refine ⟨_, rfl, pr_shp [], sh0, fun _ => q, fun h => ?_⟩
    have h : PyData.eqv (.list []) (.list []) = false := h
    rw [eqv_nilD] at h; cases h
  · rw [List.concat_eq_append] at *
    have e1 : (ss ++ [p]).map prI = ss.map prI ++ [prI p] := by rw [List.map_append]; rfl
    have e2 : (ss ++ [p]).getLast? = some p := by simp
    rw [e2] at q
    have sh1 := pr_shp (ss ++ [p])
    rw [e1] at sh1
    unfold stL
    rw [e1]
    refine ⟨_, rfl, sh1, sh0, fun h => ?_, fun _ => ?_⟩
    · have h : PyData.eqv (.list (ss.map prI ++ [prI p])) (.list []) = true := h
      rw [eqv_nilD] at h
      simp at h
    · rw [List.length_append] at hl
      refine ⟨_, rfl, _, rfl, by rw [cut_end, bigS, List.length_map]; show un.length + 1 ≤ 16777216; have hl : ss.length + 1 + un.length ≤ 8 := hl; omega, 1, rfl, _, rfl, 0, rfl, ?_⟩
      rw [cut_end, cut_begin]
      refine ⟨_, rfl, _, atI_last _ _, .int p.1, rfl, ?_⟩
      simp only [List.dropLast_concat] at q
      unfold stL at q
      rw [List.map_append] at q
      exact q
abbrev N_law_due_redo_e502 : List Str := ["state"]
def ir_law_due_redo_e502 : TSt :=
  (sSeq (sIf (tVal (dBin cEq (.e (dBin bIx (.s 0) (.e (dC (.int 1))))) (.e (dFz (fLst aNil))))) (sRet (fD (dC (.str "nothing")))) sNext)
    (sSeq (sSetL 0 (.e (dC (.int 0))) (dBin bAdd (.e (dBin bIx (.s 0) (.e (dC (.int 0))))) (.e (dSl (.e (dBin bIx (.s 0) (.e (dC (.int 1))))) (pSome (.e (dNeg (.e (dC (.int 1)))))) pNone))))
    (sSeq (sSetL 0 (.e (dC (.int 1))) (dSl (.e (dBin bIx (.s 0) (.e (dC (.int 1))))) pNone (pSome (.e (dNeg (.e (dC (.int 1))))))))
    (sRet (fD (dBin bIx (.e (dBin bIx (.e (dBin bIx (.s 0) (.e (dC (.int 0))))) (.e (dNeg (.e (dC (.int 1))))))) (.e (dC (.int 0)))))))))

theorem sp_dredo : ∀ args Q, S_dredo.sp args Q → ir_law_due_redo_e502 (endsOf args Q) (rho0 N_law_due_redo_e502 args) := by
  rintro args Q ⟨st, un, rfl, hl, q⟩
  have bigS : sizeLine = 16777216 := sizeLine_eq
  have sh0 : shp (.list ([] : List PD)) := (Shp.list (n := 0) (by simp)).shp
  unfold lastR lastS at q
  rcases List.eq_nil_or_concat un with rfl | ⟨ss, p, rfl⟩
  · refine ⟨_, rfl, pr_shp [], sh0, fun _ => q, fun h => ?_⟩
    have h : PyData.eqv (.list []) (.list []) = false := h
    rw [eqv_nilD] at h; cases h
  · rw [List.concat_eq_append] at *
    have e1 : (ss ++ [p]).map prI = ss.map prI ++ [prI p] := by rw [List.map_append]; rfl
    have e2 : (ss ++ [p]).getLast? = some p := by simp
    rw [e2] at q
    have sh1 := pr_shp (ss ++ [p])
    rw [e1] at sh1
    unfold stL
    rw [e1]
    refine ⟨_, rfl, sh1, sh0, fun h => ?_, fun _ => ?_⟩
    · have h : PyData.eqv (.list (ss.map prI ++ [prI p])) (.list []) = true := h
      rw [eqv_nilD] at h
      simp at h
    · rw [List.length_append] at hl
      refine ⟨_, rfl, _, rfl, by rw [cut_end, bigS, List.length_map]; show st.length + 1 ≤ 16777216; have hl : st.length + (ss.length + 1) ≤ 8 := hl; omega, 0, rfl, _, rfl, 1, rfl, ?_⟩
      rw [cut_end, cut_begin]
      refine ⟨_, rfl, _, atI_last _ _, .int p.1, rfl, ?_⟩
      simp only [List.dropLast_concat] at q
      unfold stL at q
      rw [List.map_append] at q
      exact q

theorem eq56 {a b : Str} (e : a = b) : PyData.bool (decide (a = b)) = .bool true := by simp [e]
def S_deed (C : Addr) : FSpec := ⟨fun args Q => ∃ (B n : Nat) (dk : List PD) (b d : Addr) (st un : List P2), args = [.ls (some 0) dk, dl (some 1) C n b d st un, stL (some 2) st un, .d (.int (n : Nat))] ∧ Dk (B + 8) dk ∧ DOk n st un ∧ ∀ dk' b' d' st' un', DOk n st' un' → Dk B dk' → Q (.d (.bool true)) [.ls (some 0) dk', dl (some 1) C n b' d' st' un', stL (some 2) st' un']⟩
abbrev N_law_deed_9eae : List Str := ["deck", "dial", "state", "clock", "sort", "at", "number", "odd"]
def ir_law_deed_9eae (S_law_draw_a51a : FSpec) (S_law_odd_ed94 : FSpec) (S_law_set_a42b_e : FSpec) (S_law_due_7c00 : FSpec) (S_law_undo_81c7_e : FSpec) (S_law_due_undo_8883 : FSpec) (S_law_redo_d6e1_e : FSpec) (S_law_due_redo_e502 : FSpec) (S_law_get_4e47_e : FSpec) (S_law_due_get_5072 : FSpec) : TSt :=
  (sSeq (sAsg 4 (fCall S_law_draw_a51a (aCons (.s 0) (aCons (.e (dC (.int 10))) aNil))))
    (sSeq (sIf (tVal (dBin cLt (.s 4) (.e (dC (.int 5))))) (sSeq (sAsg 5 (fD (dIte (tVal (dBin cGt (.e (dFz (fCall S_law_draw_a51a (aCons (.s 0) (aCons (.e (dC (.int 5))) aNil))))) (.e (dC (.int 0))))) (dFz (fCall S_law_draw_a51a (aCons (.s 0) (aCons (.e (dVar 3)) aNil)))) (dFz (fCall S_law_odd_ed94 (aCons (.s 0) (aCons (.e (dVar 3)) aNil)))))))
    (sSeq (sAsg 6 (fD (dIte (tVal (dBin cGt (.e (dFz (fCall S_law_draw_a51a (aCons (.s 0) (aCons (.e (dC (.int 5))) aNil))))) (.e (dC (.int 0))))) (dFz (fCall S_law_draw_a51a (aCons (.s 0) (aCons (.e (dVar 3)) aNil)))) (dFz (fCall S_law_odd_ed94 (aCons (.s 0) (aCons (.e (dVar 3)) aNil)))))))
    (sRet (fD (dBin cEq (.e (dBi bRepr (aCons (.e (dFz (fCall S_law_set_a42b_e (aCons (.s 1) (aCons (.e (dVar 5)) (aCons (.e (dVar 6)) aNil)))))) aNil))) (.e (dBi bRepr (aCons (.e (dFz (fCall S_law_due_7c00 (aCons (.s 2) (aCons (.e (dVar 3)) (aCons (.e (dVar 5)) (aCons (.e (dVar 6)) aNil))))))) aNil)))))))) sNext)
    (sSeq (sIf (tVal (dBin cLt (.s 4) (.e (dC (.int 7))))) (sRet (fD (dBin cEq (.e (dBi bRepr (aCons (.e (dFz (fCall S_law_undo_81c7_e (aCons (.s 1) aNil)))) aNil))) (.e (dBi bRepr (aCons (.e (dFz (fCall S_law_due_undo_8883 (aCons (.s 2) aNil)))) aNil)))))) sNext)
    (sSeq (sIf (tVal (dBin cLt (.s 4) (.e (dC (.int 9))))) (sRet (fD (dBin cEq (.e (dBi bRepr (aCons (.e (dFz (fCall S_law_redo_d6e1_e (aCons (.s 1) aNil)))) aNil))) (.e (dBi bRepr (aCons (.e (dFz (fCall S_law_due_redo_e502 (aCons (.s 2) aNil)))) aNil)))))) sNext)
    (sSeq (sAsg 7 (fCall S_law_odd_ed94 (aCons (.s 0) (aCons (.e (dVar 3)) aNil))))
    (sRet (fD (dBin cEq (.e (dBi bRepr (aCons (.e (dFz (fCall S_law_get_4e47_e (aCons (.s 1) (aCons (.e (dVar 7)) aNil))))) aNil))) (.e (dBi bRepr (aCons (.e (dFz (fCall S_law_due_get_5072 (aCons (.s 2) (aCons (.e (dVar 3)) (aCons (.e (dVar 7)) aNil)))))) aNil)))))))))))

set_option maxHeartbeats 4000000 in
theorem sp_deed (C : Addr) : ∀ args Q, (S_deed C).sp args Q → ir_law_deed_9eae S_draw S_lodd (S_lset C) S_ldue (S_lundo C) S_dundo (S_lredo C) S_dredo (S_lget C) S_ldueget (endsOf args Q) (rho0 N_law_deed_9eae args) := by
  rintro args Q ⟨B, n, dk, b, d, st, un, rfl, hd, ok, q⟩
  have bigS : sizeLine = 16777216 := sizeLine_eq
  have n0 := ok.n0
  have n1 := ok.n1
  have hl := ok.ln
  have lg : (((n : Nat) : Int)).natAbs.log2 < 8000 := log2_const (k := 6) (by rw [Int.natAbs_natCast]; omega)
  refine ⟨rfl, B + 7, dk, 10, rfl, hd, ⟨by decide, by decide⟩, fun r1 dk1 a0 a1 d1 => ⟨fun _ => ?_, fun _ => ⟨fun _ => ?_, fun _ => ⟨fun _ => ?_, fun _ => ?_⟩⟩⟩⟩
  · refine ⟨rfl, B + 6, dk1, 5, rfl, d1, ⟨by decide, by decide⟩, fun r5 dk5 c0 c1 d5 => ⟨fun _ => ?_, fun _ => ?_⟩⟩
    · refine ⟨rfl, B + 5, dk5, ((n : Nat) : Int), rfl, d5, ⟨by omega, lg⟩, fun r6 dk6 e0 e1 d6 => ?_⟩
      obtain ⟨x, hx0⟩ : ∃ x, x = PyData.int r6 := ⟨_, rfl⟩
      have hx : Vl x := by rw [hx0]; exact .int (by omega)
      rw [← hx0]
      refine ⟨rfl, B + 3, _, 5, rfl, (d6).mono (by omega), ⟨by decide, by decide⟩, fun r7 dk6 e0 e1 d6 => ⟨fun _ => ?_, fun _ => ?_⟩⟩
      · refine ⟨rfl, B + 2, dk6, ((n : Nat) : Int), rfl, d6, ⟨by omega, lg⟩, fun r8 dk7 f0 f1 d7 => ?_⟩
        obtain ⟨y, hy0⟩ : ∃ y, y = PyData.int r8 := ⟨_, rfl⟩
        have hy : Vl y := by rw [hy0]; exact .int (by omega)
        rw [← hy0]
        refine ⟨rfl, n, b, d, st, un, x, y, rfl, by omega, hx.pl, hy.pl, fun d' => ⟨(setR_shw hx hy).ok, rfl, n, st, un, x, y, rfl, hx.pl, hy.pl, by omega, (setR_shw hx hy).ok, ?_⟩⟩
        have q := q _ b d' _ _ (setS_ok (x := x) (y := y) ok) ((d7).mono (by omega))
        rw [same_d] at q
        exact q
      · refine ⟨rfl, B + 1, n, dk6, rfl, d6, ⟨n0, by omega⟩, fun y dk7 hy d7 => ?_⟩
        refine ⟨rfl, n, b, d, st, un, x, y, rfl, by omega, hx.pl, hy.pl, fun d' => ⟨(setR_shw hx hy).ok, rfl, n, st, un, x, y, rfl, hx.pl, hy.pl, by omega, (setR_shw hx hy).ok, ?_⟩⟩
        have q := q _ b d' _ _ (setS_ok (x := x) (y := y) ok) ((d7).mono (by omega))
        rw [same_d] at q
        exact q
    · refine ⟨rfl, B + 4, n, dk5, rfl, d5, ⟨n0, by omega⟩, fun x dk6 hx d6 => ?_⟩
      refine ⟨rfl, B + 3, _, 5, rfl, (d6).mono (by omega), ⟨by decide, by decide⟩, fun r7 dk6 e0 e1 d6 => ⟨fun _ => ?_, fun _ => ?_⟩⟩
      · refine ⟨rfl, B + 2, dk6, ((n : Nat) : Int), rfl, d6, ⟨by omega, lg⟩, fun r8 dk7 f0 f1 d7 => ?_⟩
        obtain ⟨y, hy0⟩ : ∃ y, y = PyData.int r8 := ⟨_, rfl⟩
        have hy : Vl y := by rw [hy0]; exact .int (by omega)
        rw [← hy0]
        refine ⟨rfl, n, b, d, st, un, x, y, rfl, by omega, hx.pl, hy.pl, fun d' => ⟨(setR_shw hx hy).ok, rfl, n, st, un, x, y, rfl, hx.pl, hy.pl, by omega, (setR_shw hx hy).ok, ?_⟩⟩
        have q := q _ b d' _ _ (setS_ok (x := x) (y := y) ok) ((d7).mono (by omega))
        rw [same_d] at q
        exact q
      · refine ⟨rfl, B + 1, n, dk6, rfl, d6, ⟨n0, by omega⟩, fun y dk7 hy d7 => ?_⟩
        refine ⟨rfl, n, b, d, st, un, x, y, rfl, by omega, hx.pl, hy.pl, fun d' => ⟨(setR_shw hx hy).ok, rfl, n, st, un, x, y, rfl, hx.pl, hy.pl, by omega, (setR_shw hx hy).ok, ?_⟩⟩
        have q := q _ b d' _ _ (setS_ok (x := x) (y := y) ok) ((d7).mono (by omega))
        rw [same_d] at q
        exact q
  · refine ⟨rfl, n, b, d, st, un, rfl, by omega, (lastR_shw n1 ok.sb).ok, rfl, st, un, rfl, hl, (lastR_shw n1 ok.sb).ok, ?_⟩
    have q := q _ b d _ _ (lastS_ok ok) (d1.mono (by omega))
    rw [same_d] at q
    exact q
  · refine ⟨rfl, n, b, d, st, un, rfl, by omega, (lastR_shw n1 ok.ub).ok, rfl, st, un, rfl, hl, (lastR_shw n1 ok.ub).ok, ?_⟩
    have q := q _ b d _ _ (lastS_ok ok.swap).swap (d1.mono (by omega))
    rw [same_d] at q
    exact q
  · refine ⟨rfl, B + 5, n, dk1, rfl, d1, ⟨n0, by omega⟩, fun z dk2 hz d2 => ?_⟩
    refine ⟨rfl, n, b, d, st, un, z, rfl, hz.pl, (getR_shw n1 ok.sb hz).ok, rfl, n, st, un, z, rfl, hz.pl, by omega, (getR_shw n1 ok.sb hz).ok, ?_⟩
    have q := q _ b d _ _ ok (d2.mono (by omega))
    rw [same_d] at q
    exact q
theorem nb56 {a b : Str} {p : Prop} (e : a = b) (h : (!decide (a = b)) = true) : p := by simp [e] at h
theorem dok_new {n : Nat} (n0 : 0 < n) (n1 : n ≤ 61) : DOk n [] [] := ⟨n0, n1, by decide, by simp, by simp⟩
theorem lastS_len (st un : List P2) : (lastS st un).1.length = st.length - 1 := by
  unfold lastS
  split
  · exact List.length_dropLast
  · rename_i e
    have : st = [] := List.getLast?_eq_none_iff.mp e
    rw [this]; rfl
abbrev N_law : List Str := ["script", "deck", "turn", "clock", "dial", "state", "again"]
def ir_law (C_Dial : Addr) (S_law_deck_91e6 : FSpec) (S_law_one_90da : FSpec) (S_law_draw_a51a : FSpec) (S_law_held_2b08 : FSpec) (S_law_deed_9eae : FSpec) (S_law_undo_81c7_e : FSpec) (S_law_due_undo_8883 : FSpec) (S_m_Dial_init : FSpec) (S_m_Dial_len : FSpec) : TSt :=
  (sSeq (sAsg 1 (fCall S_law_deck_91e6 (aCons (.s 0) aNil)))
    (sSeq (sFor (iRg (aCons (.e (dC (.int 4))) aNil)) (.nm 2) (sSeq (sAsg 3 (fCall S_law_one_90da (aCons (.s 1) (aCons (.e (dFz (fLst (aCons (.e (dBin bAdd (.e (dC (.int 1))) (.e (dFz (fCall S_law_draw_a51a (aCons (.s 1) (aCons (.e (dC (.int 60))) aNil))))))) (aCons (.e (dBin bAdd (.e (dC (.int 1))) (.e (dFz (fCall S_law_draw_a51a (aCons (.s 1) (aCons (.e (dC (.int 9))) aNil))))))) (aCons (.e (dC (.int 12))) (aCons (.e (dC (.int 60))) aNil))))))) aNil))))
    (sSeq (sPar 4 5 (fMakeN C_Dial S_m_Dial_init [] (aCons (.e (dVar 3)) aNil)) (fLst (aCons (.e (dFz (fLst aNil))) (aCons (.e (dFz (fLst aNil))) aNil))))
    (sSeq (sFor (iRg (aCons (.e (dC (.int 30))) aNil)) (.nm 6) (sIf (tOrD (tNotD (tVal (dFz (fCall S_law_deed_9eae (aCons (.s 1) (aCons (.s 4) (aCons (.s 5) (aCons (.e (dVar 3)) aNil)))))))) (tNotD (tVal (dFz (fCall S_law_held_2b08 (aCons (.s 4) (aCons (.s 5) (aCons (.e (dVar 3)) aNil)))))))) (sRet (fD (dC (.bool false)))) sNext))
    (sSeq (sFor (iRg (aCons (.e (dC (.int 9))) aNil)) (.nm 6) (sIf (tVal (dBin cNe (.e (dBi bRepr (aCons (.e (dFz (fCall S_law_undo_81c7_e (aCons (.s 4) aNil)))) aNil))) (.e (dBi bRepr (aCons (.e (dFz (fCall S_law_due_undo_8883 (aCons (.s 5) aNil)))) aNil))))) (sRet (fD (dC (.bool false)))) sNext))
    (sIf (tOrD (tVal (dBin cNe (.e (dLenS C_Dial S_m_Dial_len 4)) (.e (dC (.int 0))))) (tVal (dBin cNe (.e (dBi bRepr (aCons (.e (dFz (fCall S_law_undo_81c7_e (aCons (.s 4) aNil)))) aNil))) (.e (dBi bRepr (aCons (.e (dC (.str "nothing"))) aNil)))))) (sRet (fD (dC (.bool false)))) sNext))))))
    (sRet (fD (dC (.bool true))))))

set_option maxHeartbeats 8000000 in
theorem sp_law (C : Addr) : ∀ args Q, lawS.sp args Q → ir_law C S_deck S_one S_draw (S_held C) (S_deed C) (S_lundo C) S_dundo (S_dinit C) (S_dlen C) (endsOf args Q) (rho0 N_law args) := by
  rintro args Q ⟨ns, rfl, hl, q⟩
  have bigS : sizeLine = 16777216 := sizeLine_eq
  refine ⟨rfl, ns, rfl, hl, fun dk hdk => ?_⟩
  refine ⟨by decide, _, rfl, fun i ρ => ∃ (dk : List PD) (s2 s3 s4 s5 s6 : Option Lc), ρ = [some (.sc (ns.map .int)), some (.ls none dk), s2, s3, s4, s5, s6] ∧ Dk ((4 - i) * 250) dk, ⟨dk, none, none, none, none, none, rfl, hdk.mono (by decide)⟩, ?_, ?_⟩
  · rintro i x ρ hx ⟨dk, s2, s3, s4, s5, s6, rfl, hd⟩
    obtain ⟨rfl, hi⟩ := rngD_get hx
    have hi : i < 4 := hi
    have eB : (4 - i) * 250 = (4 - (i + 1)) * 250 + 250 := by omega
    rw [eB] at hd
    obtain ⟨B, hB⟩ : ∃ B, B = (4 - (i + 1)) * 250 := ⟨_, rfl⟩
    rw [← hB] at hd
    refine ⟨rfl, B + 249, dk, 60, rfl, hd, ⟨by decide, by decide⟩, fun r1 dk1 a0 a1 d1 => ?_⟩
    refine ⟨rfl, B + 248, dk1, 9, rfl, d1, ⟨by decide, by decide⟩, fun r2 dk2 b0 b1 d2 => ?_⟩
    refine ⟨rfl, B + 247, dk2, _, rfl, d2, ⟨Nat.succ_pos _, by show 4 < 2 ^ 60; decide⟩, fun z dk3 hz d3 => ?_⟩
    have cl : ∃ n : Nat, z = .int n ∧ 0 < n ∧ n ≤ 60 := by
      have all : ∀ x ∈ [PyData.int (1 + r1), .int (1 + r2), .int 12, .int 60], ∃ n : Nat, x = .int n ∧ 0 < n ∧ n ≤ 60 := by
        simp only [List.forall_mem_cons]
        exact ⟨⟨(1 + r1).toNat, by rw [Int.toNat_of_nonneg (by omega)], by omega, by omega⟩, ⟨(1 + r2).toNat, by rw [Int.toNat_of_nonneg (by omega)], by omega, by omega⟩, ⟨12, rfl, by decide, by decide⟩, ⟨60, rfl, by decide, by decide⟩, fun x hx => by cases hx⟩
      exact all z hz
    obtain ⟨n, rfl, n0, n1⟩ := cl
    have new := dok_new n0 (show n ≤ 61 by omega)
    refine ⟨n, rfl, fun b d => ⟨rfl, _, _, rfl, ?_⟩⟩
    refine ⟨by decide, _, rfl, fun j ρ => ∃ (dk : List PD) (b d : Addr) (st un : List P2) (s6 : Option Lc), ρ = [some (.sc (ns.map .int)), some (.ls none dk), some (.d (.int (0 + (i : Nat)))), some (.d (.int (n : Nat))), some (dl none C n b d st un), some (stL none st un), s6] ∧ DOk n st un ∧ Dk (B + 8 * (30 - j)) dk, ⟨dk3, b, d, [], [], s6, rfl, new, d3.mono (by omega)⟩, ?_, ?_⟩
    · rintro j y ρ hy ⟨dk4, b, d, st, un, s6, rfl, ok, d4⟩
      obtain ⟨rfl, hj⟩ := rngD_get hy
      have hj : j < 30 := hj
      have eB2 : B + 8 * (30 - j) = (B + 8 * (30 - (j + 1))) + 8 := by omega
      rw [eB2] at d4
      refine ⟨rfl, _, n, dk4, b, d, st, un, rfl, d4, ok, fun dk5 b5 d5 st5 un5 ok5 hd5 => ⟨nofun, fun _ => ⟨rfl, n, b5, d5, st5, un5, rfl, ok5, nofun, fun _ => ?_⟩⟩⟩
      exact ⟨dk5, b5, d5, st5, un5, _, rfl, ok5, hd5⟩
    rintro ρ ⟨dk4, b, d, st, un, s6, rfl, ok, d4⟩
    refine ⟨by decide, _, rfl, fun j ρ => ∃ (st un : List P2) (s6 : Option Lc), ρ = [some (.sc (ns.map .int)), some (.ls none dk4), some (.d (.int (0 + (i : Nat)))), some (.d (.int (n : Nat))), some (dl none C n b d st un), some (stL none st un), s6] ∧ DOk n st un ∧ st.length ≤ 9 - j, ⟨st, un, s6, rfl, ok, by have := ok.ln; omega⟩, ?_, ?_⟩
    · rintro j y ρ hy ⟨st, un, s6, rfl, ok, hst⟩
      obtain ⟨rfl, hj⟩ := rngD_get hy
      have hl := ok.ln
      refine ⟨rfl, n, b, d, st, un, rfl, by omega, (lastR_shw (by omega) ok.sb).ok, rfl, st, un, rfl, hl, (lastR_shw (by omega) ok.sb).ok, fun h => nb56 rfl h, fun _ => ?_⟩
      exact ⟨_, _, _, rfl, lastS_ok ok, by rw [lastS_len]; omega⟩
    rintro ρ ⟨st, un, s6, rfl, ok, hst⟩
    have hst : st.length ≤ 9 - 9 := hst
    have e0 : st = [] := List.length_eq_zero_iff.mp (by omega)
    subst e0
    have hl := ok.ln
    refine ⟨rfl, rfl, rfl, rfl, n, b, d, [], un, rfl, 0, rfl, by decide, nofun, fun _ => ⟨rfl, n, b, d, [], un, rfl, by omega, (lastR_shw (n := n) (st := []) (by omega) (by simp)).ok, ((Shw.str nothing_text : Shw 0 20 _)).ok, fun h => nb56 rfl h, fun _ => ?_⟩⟩
    exact ⟨dk4, _, _, _, _, _, rfl, by rw [← hB]; exact d4.mono (by omega)⟩
  · rintro ρ ⟨dk, s2, s3, s4, s5, s6, rfl, hd⟩
    exact q
end DL
namespace DL
open PySem L2 PyProof.Rows StX
def top (i : Nat) : Stmt := PySem.Challenge.pw_hourforms_k56_dials_taken_back.main.body.getD i (.Pass ⟨0, 0, 0, 0⟩)
abbrev st_x_NoHour : Stmt := inClass (top 5) 0
theorem sc_x_NoHour : FnScope ["self", "value"] ["self", "value"] (defScope st_x_NoHour) := ⟨rfl, rfl, rfl, by decide +kernel, rfl, by decide +kernel, by decide +kernel⟩
theorem mk_x_NoHour {P : Program} {w : World} {K : PySem.W.Frag} {mg : Str → Option Value} {base : Heap} {fI C HC : Addr} {fd : FuncData} (Fn : Fun K "__init__" "NoHour.__init__" st_x_NoHour fI fd) (mH : mg "HourError" = some (.ref HC)) (hc : HeC K HC) (T : OexC K C) (no_value : PySem.W.findIn K (.ref C) "value" = some none)
    (iC : PySem.W.findIn K (.ref C) "__init__" = some (some (.ref fI))) (tI : PySem.W.typeIn K (.ref fI) = some (.type "function")) (gm : mg "NoHour" = some (.ref C)) (bi : Binds K fd ["self", "value"] []) : ExMk P w K mg base 1 "NoHour" C ["value"] :=
  ex_ok1 (k := 0) (m := "NoHour") Fn sc_x_NoHour T no_value iC tI gm (fun cdv A outer s H E hr => pss_cons (ps_expr (pe_hinit rfl mH hc (pa_cons (pv 0) (pa_cons pe_str pa_nil)))) (pss_one (ps_ost (pv 0) (pv 1)))) bi
abbrev st_x_Told : Stmt := inClass (top 6) 0
theorem sc_x_Told : FnScope ["self", "at"] ["self", "at"] (defScope st_x_Told) := ⟨rfl, rfl, rfl, by decide +kernel, rfl, by decide +kernel, by decide +kernel⟩
theorem mk_x_Told {P : Program} {w : World} {K : PySem.W.Frag} {mg : Str → Option Value} {base : Heap} {fI C HC : Addr} {fd : FuncData} (Fn : Fun K "__init__" "Told.__init__" st_x_Told fI fd) (mH : mg "HourError" = some (.ref HC)) (hc : HeC K HC) (T : OexC K C) (no_at : PySem.W.findIn K (.ref C) "at" = some none)
    (iC : PySem.W.findIn K (.ref C) "__init__" = some (some (.ref fI))) (tI : PySem.W.typeIn K (.ref fI) = some (.type "function")) (gm : mg "Told" = some (.ref C)) (bi : Binds K fd ["self", "at"] []) : ExMk P w K mg base 1 "Told" C ["at"] :=
  ex_ok1 (k := 0) (m := "Told") Fn sc_x_Told T no_at iC tI gm (fun cdv A outer s H E hr => pss_cons (ps_expr (pe_hinit rfl mH hc (pa_cons (pv 0) (pa_cons pe_str pa_nil)))) (pss_one (ps_ost (pv 0) (pv 1)))) bi
abbrev st_law_deck_91e6 : Stmt := top 14
theorem sc_law_deck_91e6 : FnScope N_law_deck_91e6 ["script"] (defScope st_law_deck_91e6) := ⟨rfl, rfl, rfl, by decide +kernel, rfl, by decide +kernel, by decide +kernel⟩
theorem cal_law_deck_91e6 {P : Program} {w : World} {K : PySem.W.Frag} {mg : Str → Option Value} {base : Heap} {k : Nat} (hnd : base.NoDigits) (D : Dn K mg "_law_deck" st_law_deck_91e6 ["script"]) (b_list : mg "list" = none) {S : FSpec}
    (len : ∀ args Q, S.sp args Q → args.length = 1) (hsp : ∀ args Q, S.sp args Q → ir_law_deck_91e6 (endsOf args Q) (rho0 N_law_deck_91e6 args)) : Cal P w K mg base (k + 1) "_law_deck" ["script"] S := by
  have sc := sc_law_deck_91e6
  exact def_cal D sc len (fun f cdv A outer s H E hr hgd =>
    (LSs.one (LS.ret (LF.lst (LA.cons (LO.ofD (LD.ofF (LF.list rfl b_list (LA.cons (LO.ofD (LD.slS 0 (pv 0) LP.none (LP.some (LO.ofD LD.int)))) LA.nil)))) (LA.cons (LO.ofD LD.int) (LA.cons (LO.ofD LD.int) (LA.cons (LO.ofD LD.int) LA.nil)))))))) hsp
abbrev st_law_draw_a51a : Stmt := top 15
theorem sc_law_draw_a51a : FnScope N_law_draw_a51a ["deck", "many"] (defScope st_law_draw_a51a) := ⟨rfl, rfl, rfl, by decide +kernel, rfl, by decide +kernel, by decide +kernel⟩
theorem cal_law_draw_a51a {P : Program} {w : World} {K : PySem.W.Frag} {mg : Str → Option Value} {base : Heap} {k : Nat} (hnd : base.NoDigits) (D : Dn K mg "_law_draw" st_law_draw_a51a ["deck", "many"]) (b_int : mg "int" = none) (b_len : mg "len" = none) (b_abs : mg "abs" = none) {S : FSpec}
    (len : ∀ args Q, S.sp args Q → args.length = 2) (hsp : ∀ args Q, S.sp args Q → ir_law_draw_a51a (endsOf args Q) (rho0 N_law_draw_a51a args)) : Cal P w K mg base (k + 1) "_law_draw" ["deck", "many"] S := by
  have sc := sc_law_draw_a51a
  exact def_cal D sc len (fun f cdv A outer s H E hr hgd =>
    (LSs.cons (LS.setL (LD.bin op_addD ok_add (LO.ofD (LD.ix (LO.s 0 (pv 0)) (LO.ofD LD.int) (fun _ _ => rfl))) (LO.ofD LD.int)) (pg_sub (pv 0) (pO (LO.ofD LD.int)) set_list))
    (LSs.cons (LS.ite (LT.cmp op_gt (ok_cI _) (LO.ofD (LD.ix (LO.s 0 (pv 0)) (LO.ofD LD.int) (fun _ _ => rfl))) (LO.ofD LD.int) (nomark _)) (LSs.cons (LS.asg (i := 2) sc.nd rfl (by first | exact .inl rfl | exact .inr rfl) (LF.ofD (LD.bin op_mod ok_mod (LO.ofD (LD.bt call_int1 ok_int rfl b_int (by decide +kernel) (LA.cons (LO.ofD (LD.ix (LO.s 0 (pv 0)) (LO.ofD LD.int) (fun _ _ => rfl))) LA.nil))) (LO.s 1 (pv 1)))))
    (LSs.cons (LS.setL (LD.bin op_fdivW ok_fdiv (LO.ofD (LD.ix (LO.s 0 (pv 0)) (LO.ofD LD.int) (fun _ _ => rfl))) (LO.s 1 (pv 1))) (pg_sub (pv 0) (pO (LO.ofD LD.int)) set_list))
    (LSs.one (LS.retV 2 (pv 2))))) LSs.nil)
    (LSs.cons (LS.asg (i := 3) sc.nd rfl (by first | exact .inl rfl | exact .inr rfl) (LF.ofD LD.int))
    (LSs.cons (LS.ite (LT.cmp (op_neU hr.units) ok_ne (LO.ofD (LD.ix (LO.s 0 (pv 0)) (LO.ofD LD.int) (fun _ _ => rfl))) (LO.ofD (LD.ofF (LF.lst LA.nil))) (nomark _)) (LSs.one (LS.asg (i := 3) sc.nd rfl (by first | exact .inl rfl | exact .inr rfl) (LF.ofD (LD.ix (LO.ofD (LD.ix (LO.s 0 (pv 0)) (LO.ofD LD.int) (fun _ _ => rfl))) (LO.ofD (LD.bin op_mod ok_mod (LO.ofD (LD.bt call_int1 ok_int rfl b_int (by decide +kernel) (LA.cons (LO.ofD (LD.ix (LO.s 0 (pv 0)) (LO.ofD LD.int) (fun _ _ => rfl))) LA.nil))) (LO.ofD (LD.bi call_lenU ok_len rfl b_len (by decide +kernel) (LA.cons (LO.ofD (LD.ix (LO.s 0 (pv 0)) (LO.ofD LD.int) (fun _ _ => rfl))) LA.nil))))) (fun _ _ => rfl))))) LSs.nil)
    (LSs.cons (LS.setL (LD.bin op_addD ok_add (LO.ofD (LD.ix (LO.s 0 (pv 0)) (LO.ofD LD.int) (fun _ _ => rfl))) (LO.ofD LD.int)) (pg_sub (pv 0) (pO (LO.ofD LD.int)) set_list))
    (LSs.cons (LS.ite (LT.w (LW.and (LT.cmp op_ge (ok_cI _) (LO.ofD (LD.bi call_abs ok_abs rfl b_abs (by decide +kernel) (LA.cons (LO.s 3 (pv 3)) LA.nil))) (LO.ofD (LD.bin op_powW ok_pow (LO.ofD LD.int) (LO.ofD LD.int))) (nomark _)) (LW.and1 (LT.cmp op_le (ok_cI _) (LO.ofD (LD.ix (LO.s 0 (pv 0)) (LO.ofD LD.int) (fun _ _ => rfl))) (LO.ofD (LD.bi call_lenU ok_len rfl b_len (by decide +kernel) (LA.cons (LO.ofD (LD.ix (LO.s 0 (pv 0)) (LO.ofD LD.int) (fun _ _ => rfl))) LA.nil))) (nomark _))))) (LSs.cons (LS.setL (LD.bin op_fdivW ok_fdiv (LO.ofD (LD.bi call_abs ok_abs rfl b_abs (by decide +kernel) (LA.cons (LO.s 3 (pv 3)) LA.nil))) (LO.s 1 (pv 1))) (pg_sub (pv 0) (pO (LO.ofD LD.int)) set_list))
    (LSs.one (LS.ret (LF.ofD (LD.bin op_mod ok_mod (LO.ofD (LD.bt call_int1 ok_int rfl b_int (by decide +kernel) (LA.cons (LO.ofD (LD.bi call_abs ok_abs rfl b_abs (by decide +kernel) (LA.cons (LO.s 3 (pv 3)) LA.nil))) LA.nil))) (LO.s 1 (pv 1))))))) LSs.nil)
    (LSs.cons (LS.asg (i := 4) sc.nd rfl (by first | exact .inl rfl | exact .inr rfl) (LF.ofD (LD.bin op_mod ok_mod (LO.ofD (LD.bin op_powW ok_pow (LO.ofD (LD.bt call_int1 ok_int rfl b_int (by decide +kernel) (LA.cons (LO.ofD (LD.bin op_addD ok_add (LO.ofD (LD.bin op_mod ok_mod (LO.ofD (LD.bt call_int1 ok_int rfl b_int (by decide +kernel) (LA.cons (LO.s 3 (pv 3)) LA.nil))) (LO.ofD LD.int))) (LO.ofD (LD.bin op_mulI ok_mul (LO.ofD LD.int) (LO.ofD (LD.ix (LO.s 0 (pv 0)) (LO.ofD LD.int) (fun _ _ => rfl))))))) LA.nil))) (LO.ofD LD.int))) (LO.ofD LD.int))))
    (LSs.cons (LS.asg (i := 4) sc.nd rfl (by first | exact .inl rfl | exact .inr rfl) (LF.ofD (LD.bin op_mod ok_mod (LO.ofD (LD.bin op_powW ok_pow (LO.ofD (LD.bt call_int1 ok_int rfl b_int (by decide +kernel) (LA.cons (LO.ofD (LD.bin op_addD ok_add (LO.ofD (LD.bin op_mulI ok_mul (LO.s 4 (pv 4)) (LO.ofD (LD.bin op_addD ok_add (LO.ofD (LD.bin op_mulI ok_mul (LO.ofD LD.int) (LO.ofD (LD.ix (LO.s 0 (pv 0)) (LO.ofD LD.int) (fun _ _ => rfl))))) (LO.ofD LD.int))))) (LO.ofD LD.int))) LA.nil))) (LO.ofD LD.int))) (LO.ofD LD.int))))
    (LSs.one (LS.ret (LF.ofD (LD.bin op_mod ok_mod (LO.ofD (LD.bin op_fdivW ok_fdiv (LO.s 4 (pv 4)) (LO.ofD LD.int))) (LO.s 1 (pv 1))))))))))))))) hsp
abbrev st_law_one_90da : Stmt := top 16
theorem sc_law_one_90da : FnScope N_law_one_90da ["deck", "items"] (defScope st_law_one_90da) := ⟨rfl, rfl, rfl, by decide +kernel, rfl, by decide +kernel, by decide +kernel⟩
theorem cal_law_one_90da {P : Program} {w : World} {K : PySem.W.Frag} {mg : Str → Option Value} {base : Heap} {k : Nat} (hnd : base.NoDigits) (D : Dn K mg "_law_one" st_law_one_90da ["deck", "items"]) {S_law_draw_a51a : FSpec} (c_law_draw_a51a : Cal P w K mg base k "_law_draw" ["deck", "many"] S_law_draw_a51a) (b_len : mg "len" = none) {S : FSpec}
    (len : ∀ args Q, S.sp args Q → args.length = 2) (hsp : ∀ args Q, S.sp args Q → ir_law_one_90da S_law_draw_a51a (endsOf args Q) (rho0 N_law_one_90da args)) : Cal P w K mg base (k + 1) "_law_one" ["deck", "items"] S := by
  have sc := sc_law_one_90da
  exact def_cal D sc len (fun f cdv A outer s H E hr hgd =>
    (LSs.one (LS.ret (LF.ofD (LD.ix (LO.s 1 (pv 1)) (LO.ofD (LD.ofF (LF.cal c_law_draw_a51a hr hgd rfl (LA.cons (LO.s 0 (pv 0)) (LA.cons (LO.ofD (LD.bi call_lenU ok_len rfl b_len (by decide +kernel) (LA.cons (LO.s 1 (pv 1)) LA.nil))) LA.nil))))) (fun _ _ => rfl)))))) hsp
abbrev st_law_is_hour_b9ab : Stmt := top 17
theorem sc_law_is_hour_b9ab : FnScope N_law_is_hour_b9ab ["value", "clock"] (defScope st_law_is_hour_b9ab) := ⟨rfl, rfl, rfl, by decide +kernel, rfl, by decide +kernel, by decide +kernel⟩
theorem cal_law_is_hour_b9ab {P : Program} {w : World} {K : PySem.W.Frag} {mg : Str → Option Value} {base : Heap} {k : Nat} (hnd : base.NoDigits) (D : Dn K mg "_law_is_hour" st_law_is_hour_b9ab ["value", "clock"]) (b_isinstance : mg "isinstance" = none) (b_bool : mg "bool" = none) (b_int : mg "int" = none) {S : FSpec}
    (len : ∀ args Q, S.sp args Q → args.length = 2) (hsp : ∀ args Q, S.sp args Q → ir_law_is_hour_b9ab (endsOf args Q) (rho0 N_law_is_hour_b9ab args)) : Cal P w K mg base (k + 1) "_law_is_hour" ["value", "clock"] S := by
  have sc := sc_law_is_hour_b9ab
  exact def_cal D sc len (fun f cdv A outer s H E hr hgd =>
    (LSs.one (LS.ret (LF.ofD (LD.and (LD.isi "int" (by simp) rfl b_isinstance rfl b_int (by decide +kernel) (LO.s 0 (pv 0))) (LD.and (LD.not (LD.isi "bool" (by simp) rfl b_isinstance rfl b_bool (by decide +kernel) (LO.s 0 (pv 0)))) (LD.one (LD.chain op_le op_lt (LO.ofD LD.int) (LO.s 0 (pv 0)) (LO.s 1 (pv 1)))))))))) hsp
abbrev st_law_due_get_5072 : Stmt := top 21
theorem sc_law_due_get_5072 : FnScope N_law_due_get_5072 ["state", "clock", "at"] (defScope st_law_due_get_5072) := ⟨rfl, rfl, rfl, by decide +kernel, rfl, by decide +kernel, by decide +kernel⟩
theorem cal_law_due_get_5072 {P : Program} {w : World} {K : PySem.W.Frag} {mg : Str → Option Value} {base : Heap} {k : Nat} (hnd : base.NoDigits) (D : Dn K mg "_law_due_get" st_law_due_get_5072 ["state", "clock", "at"]) {S_law_is_hour_b9ab : FSpec} (c_law_is_hour_b9ab : Cal P w K mg base k "_law_is_hour" ["value", "clock"] S_law_is_hour_b9ab) {S : FSpec}
    (len : ∀ args Q, S.sp args Q → args.length = 3) (hsp : ∀ args Q, S.sp args Q → ir_law_due_get_5072 S_law_is_hour_b9ab (endsOf args Q) (rho0 N_law_due_get_5072 args)) : Cal P w K mg base (k + 1) "_law_due_get" ["state", "clock", "at"] S := by
  have sc := sc_law_due_get_5072
  exact def_cal D sc len (fun f cdv A outer s H E hr hgd =>
    (LSs.cons (LS.ite (LT.not (LT.val (LD.ofF (LF.cal c_law_is_hour_b9ab hr hgd rfl (LA.cons (LO.ofD (LD.var 2 (pv 2))) (LA.cons (LO.ofD (LD.var 1 (pv 1))) LA.nil)))))) (LSs.one (LS.ret (LF.ofD (LD.tup (LA.cons (LO.ofD LD.str) (LA.cons (LO.ofD (LD.var 2 (pv 2))) LA.nil)))))) LSs.nil)
    (LSs.one (LS.ret (LF.ofD (LD.ix (LO.ofD (LD.bin op_addD ok_add (LO.ofD (LD.ofF (LF.lc (pt := (.tp [3, 4])) (vs := [3, 4]) rfl sc.nd (LI.seq (LD.ix (LO.s 0 (pv 0)) (LO.ofD LD.int) (fun _ _ => rfl))) (blk_mk (N := N_law_due_get_5072) (own := [("place", 3), ("number", 4)]) ["at"] (by decide +kernel) ⟨by first | exact .inl rfl | exact .inr rfl, trivial⟩) rfl (by decide) (fun _ _ _ _ _ => (pg_tup rfl (pgs_cons (pg_name (i := 3) sc.nd rfl (by first | exact .inl rfl | exact .inr rfl)) (pgs_cons (pg_name (i := 4) sc.nd rfl (by first | exact .inl rfl | exact .inr rfl)) pgs_nil)))) (fun _ _ _ _ _ => pts_one (pT (LT.cmp (op_eqU hr.units) ok_eq (LO.s 3 (pv 3)) (LO.s 2 (pv 2)) (nomark _)))) (fun _ _ _ _ _ => (LD.var 4 (pv 4)))))) (LO.ofD (LD.ofF (LF.lst (LA.cons (LO.ofD LD.non) LA.nil)))))) (LO.ofD LD.int) (fun _ _ => rfl))))))) hsp
abbrev st_is_integer_D : Stmt := top 2
theorem sc_is_integer_D : FnScope N_is_integer_D ["value"] (defScope st_is_integer_D) := ⟨rfl, rfl, rfl, by decide +kernel, rfl, by decide +kernel, by decide +kernel⟩
theorem cal_is_integer_D {P : Program} {w : World} {K : PySem.W.Frag} {mg : Str → Option Value} {base : Heap} {k : Nat} (hnd : base.NoDigits) (D : Dn K mg "is_integer" st_is_integer_D ["value"]) {C_Dial : Addr} (k_Dial : Cls K C_Dial) (m_Dial : mg "Dial" = some (.ref C_Dial)) (ic_Dial : IsC K C_Dial) (nc_Dial_bool : NotC K C_Dial "bool") (nc_Dial_int : NotC K C_Dial "int") (b_isinstance : mg "isinstance" = none) (b_bool : mg "bool" = none) (b_int : mg "int" = none) {S : FSpec}
    (len : ∀ args Q, S.sp args Q → args.length = 1) (hsp : ∀ args Q, S.sp args Q → ir_is_integer_D C_Dial (endsOf args Q) (rho0 N_is_integer_D args)) : Cal P w K mg base (k + 1) "is_integer" ["value"] S := by
  have sc := sc_is_integer_D
  exact def_cal D sc len (fun f cdv A outer s H E hr hgd =>
    (LSs.one (LS.ret (LF.ofD (LD.and (LD.isiI "int" ic_Dial k_Dial nc_Dial_int (by simp) rfl b_isinstance rfl b_int (by decide +kernel) (LO.s 0 (pv 0))) (LD.one (LD.not (LD.isiI "bool" ic_Dial k_Dial nc_Dial_bool (by simp) rfl b_isinstance rfl b_bool (by decide +kernel) (LO.s 0 (pv 0)))))))))) hsp
abbrev st_m_Dial_require_e : Stmt := inClass (top 12) 1
theorem sc_m_Dial_require_e : FnScope N_m_Dial_require_e ["self", "value"] (defScope st_m_Dial_require_e) := ⟨rfl, rfl, rfl, by decide +kernel, rfl, by decide +kernel, by decide +kernel⟩
theorem cal_m_Dial_require_e {P : Program} {w : World} {K : PySem.W.Frag} {mg : Str → Option Value} {base : Heap} {k : Nat} (hnd : base.NoDigits) {R : Addr → Prop} (D : Dm K R "require" "Dial.require" st_m_Dial_require_e ["self", "value"]) {S_is_integer_D : FSpec} (c_is_integer_D : Cal P w K mg base k "is_integer" ["value"] S_is_integer_D) {C_NoHour : Addr} (m_NoHour : mg "NoHour" = some (.ref C_NoHour)) (x_NoHour : ExMk P w K mg base 1 "NoHour" C_NoHour ["value"]) (hkx : 2 ≤ k) {C_Dial : Addr} (k_Dial : Cls K C_Dial) (n_Dial_clock : NoAttr K C_Dial "clock") {S : XSpec}
    (len : ∀ args Q E, S.sp args Q E → args.length = 2) (hsp : ∀ args Q E, S.sp args Q E → ir_m_Dial_require_e C_Dial C_NoHour S_is_integer_D (endsX args E) (endsOf args Q) (rho0 N_m_Dial_require_e args)) : CalRE P w K mg base (k + 1) R ["self", "value"] S := by
  have sc := sc_m_Dial_require_e
  exact def_calRE D sc len (fun f cdv A outer s H E u hr hgd tk =>
    (LSs.one (LS.ite (LT.w (LW.or (LT.not (LT.val (LD.ofF (LF.cal c_is_integer_D hr hgd rfl (LA.cons (LO.ofD (LD.var 1 (pv 1))) LA.nil))))) (LW.or (LT.cmp op_lt (ok_cI _) (LO.s 1 (pv 1)) (LO.ofD LD.int) (nomark _)) (LW.or1 (LT.cmp op_ge (ok_cI _) (LO.s 1 (pv 1)) (LO.ofD (LD.fldS k_Dial n_Dial_clock (pv 0))) (nomark _)))))) (LSs.one (LS.raise rfl tk x_NoHour (hr.mono hkx) rfl (LA.cons (LO.ofD (LD.var 1 (pv 1))) LA.nil))) LSs.nil))) hsp
abbrev st_m_Dial_getitem_e : Stmt := inClass (top 12) 3
theorem sc_m_Dial_getitem_e : FnScope N_m_Dial_getitem_e ["self", "at"] (defScope st_m_Dial_getitem_e) := ⟨rfl, rfl, rfl, by decide +kernel, rfl, by decide +kernel, by decide +kernel⟩
theorem cal_m_Dial_getitem_e {P : Program} {w : World} {K : PySem.W.Frag} {mg : Str → Option Value} {base : Heap} {k : Nat} (hnd : base.NoDigits) {R : Addr → Prop} (D : Dm K R "__getitem__" "Dial.__getitem__" st_m_Dial_getitem_e ["self", "at"]) {C_Dial : Addr} (k_Dial : Cls K C_Dial) (n_Dial_standing : NoAttr K C_Dial "standing") {S_m_Dial_require_e : XSpec} (c_m_Dial_require_e : CalRE P w K mg base k (Meth K C_Dial "require") ["self", "value"] S_m_Dial_require_e) {S : XSpec}
    (len : ∀ args Q E, S.sp args Q E → args.length = 2) (hsp : ∀ args Q E, S.sp args Q E → ir_m_Dial_getitem_e C_Dial S_m_Dial_require_e (endsX args E) (endsOf args Q) (rho0 N_m_Dial_getitem_e args)) : CalRE P w K mg base (k + 1) R ["self", "at"] S := by
  have sc := sc_m_Dial_getitem_e
  exact def_calRE D sc len (fun f cdv A outer s H E u hr hgd tk =>
    (LSs.cons (LS.drop (LD.ofF (LF.mthSE k_Dial c_m_Dial_require_e hr hgd tk (pv 0) (LA.cons (LO.ofD (LD.var 1 (pv 1))) LA.nil))))
    (LSs.cons (LS.forN (pt := (.tp [2, 3])) (passes_of rfl) rfl (LI.fld k_Dial n_Dial_standing (pv 0)) (pg_tup rfl (pgs_cons (pg_name (i := 2) sc.nd rfl (by first | exact .inl rfl | exact .inr rfl)) (pgs_cons (pg_name (i := 3) sc.nd rfl (by first | exact .inl rfl | exact .inr rfl)) pgs_nil))) (LSs.one (LS.ite (LT.cmp (op_eqU hr.units) ok_eq (LO.s 2 (pv 2)) (LO.s 1 (pv 1)) (nomark _)) (LSs.one (LS.retV 3 (pv 3))) LSs.nil)))
    (LSs.one (LS.ret (LF.ofD LD.non)))))) hsp
abbrev st_law_get_4e47_e : Stmt := top 20
theorem sc_law_get_4e47_e : FnScope N_law_get_4e47_e ["dial", "at"] (defScope st_law_get_4e47_e) := ⟨rfl, rfl, rfl, by decide +kernel, rfl, by decide +kernel, by decide +kernel⟩
theorem cal_law_get_4e47_e {P : Program} {w : World} {K : PySem.W.Frag} {mg : Str → Option Value} {base : Heap} {k : Nat} (hnd : base.NoDigits) (D : Dn K mg "_law_get" st_law_get_4e47_e ["dial", "at"]) {C_HourError : Addr} (m_HourError : mg "HourError" = some (.ref C_HourError)) {C_NoHour : Addr} (m_NoHour : mg "NoHour" = some (.ref C_NoHour)) {C_Told : Addr} (m_Told : mg "Told" = some (.ref C_Told)) {C_Full : Addr} (m_Full : mg "Full" = some (.ref C_Full)) {C_NothingTold : Addr} (m_NothingTold : mg "NothingTold" = some (.ref C_NothingTold)) {C_NothingUndone : Addr} (m_NothingUndone : mg "NothingUndone" = some (.ref C_NothingUndone)) (em_Told_HourError : PySem.W.exmOne K (.ref C_Told) (.ref C_HourError) = some true) (em_Full_HourError : PySem.W.exmOne K (.ref C_Full) (.ref C_HourError) = some true) (em_NothingTold_HourError : PySem.W.exmOne K (.ref C_NothingTold) (.ref C_HourError) = some true) (em_NothingUndone_HourError : PySem.W.exmOne K (.ref C_NothingUndone) (.ref C_HourError) = some true) (em_NoHour_NoHour : PySem.W.exmOne K (.ref C_NoHour) (.ref C_NoHour) = some true) (em_Told_NoHour : PySem.W.exmOne K (.ref C_Told) (.ref C_NoHour) = some false) (em_Full_NoHour : PySem.W.exmOne K (.ref C_Full) (.ref C_NoHour) = some false) (em_NothingTold_NoHour : PySem.W.exmOne K (.ref C_NothingTold) (.ref C_NoHour) = some false) (em_NothingUndone_NoHour : PySem.W.exmOne K (.ref C_NothingUndone) (.ref C_NoHour) = some false) (xf_NoHour : XfC K C_NoHour) (nx_NoHour_value : PySem.W.findIn K (.ref C_NoHour) "value" = some none) {C_Dial : Addr} (k_Dial : Cls K C_Dial) {kg : Nat} (hkg : kg + 1 ≤ k) {S_m_Dial_getitem_e : XSpec} (c_m_Dial_getitem_e : CalRE P w K mg base kg (GetC K C_Dial) ["self", "at"] S_m_Dial_getitem_e) {S : FSpec}
    (len : ∀ args Q, S.sp args Q → args.length = 2) (hsp : ∀ args Q, S.sp args Q → ir_law_get_4e47_e C_Dial C_HourError C_NoHour C_Told C_Full C_NothingTold C_NothingUndone S_m_Dial_getitem_e (endsOf args Q) (rho0 N_law_get_4e47_e args)) : Cal P w K mg base (k + 1) "_law_get" ["dial", "at"] S := by
  have sc := sc_law_get_4e47_e
  exact def_cal D sc len (fun f cdv A outer s H E hr hgd =>
    (LSs.one (LS.try_ rfl rfl sc.nd (fun u pn xe tk hp => (LSs.one (LS.ret (LF.subS c_m_Dial_getitem_e (hr.mono hkg) hgd tk (pv 0) (LD.var 1 (pv 1)))))) (.named ⟨rfl, by decide, .inl m_NoHour⟩ (by intro p hp; simp only [List.mem_cons, List.not_mem_nil, or_false] at hp; rcases hp with rfl | rfl | rfl | rfl | rfl <;> first | exact em_NoHour_NoHour | exact em_Told_NoHour | exact em_Full_NoHour | exact em_NothingTold_NoHour | exact em_NothingUndone_NoHour) rfl rfl (fun a oe C d pn hz hf => (LSs.one (LS.ret (LF.ofD (LD.tup (LA.cons (LO.ofD LD.str) (LA.cons (LO.ofD (LD.xf xf_NoHour nx_NoHour_value hz hf (pv 2))) LA.nil))))))) (.bare ⟨rfl, by decide, .inl m_HourError⟩ (by intro p hp; simp only [List.mem_cons, List.not_mem_nil, or_false] at hp; rcases hp with rfl | rfl | rfl | rfl <;> first | exact em_Told_HourError | exact em_Full_HourError | exact em_NothingTold_HourError | exact em_NothingUndone_HourError) (fun a oe C d pn hz hf => (LSs.one (LS.ret (LF.ofD LD.str)))) .nil))))) hsp
abbrev st_m_Dial_len : Stmt := inClass (top 12) 11
theorem sc_m_Dial_len : FnScope N_m_Dial_len ["self"] (defScope st_m_Dial_len) := ⟨rfl, rfl, rfl, by decide +kernel, rfl, by decide +kernel, by decide +kernel⟩
theorem cal_m_Dial_len {P : Program} {w : World} {K : PySem.W.Frag} {mg : Str → Option Value} {base : Heap} {k : Nat} (hnd : base.NoDigits) {R : Addr → Prop} (D : Dm K R "__len__" "Dial.__len__" st_m_Dial_len ["self"]) {C_Dial : Addr} (k_Dial : Cls K C_Dial) (n_Dial_standing : NoAttr K C_Dial "standing") (b_len : mg "len" = none) {S : FSpec}
    (len : ∀ args Q, S.sp args Q → args.length = 1) (hsp : ∀ args Q, S.sp args Q → ir_m_Dial_len C_Dial (endsOf args Q) (rho0 N_m_Dial_len args)) : CalR P w K mg base (k + 1) R ["self"] S := by
  have sc := sc_m_Dial_len
  exact def_calR D sc len (fun f cdv A outer s H E hr hgd =>
    (LSs.one (LS.ret (LF.ofD (LD.bi call_lenU ok_len rfl b_len (by decide +kernel) (LA.cons (LO.f k_Dial n_Dial_standing (pv 0)) LA.nil)))))) hsp
abbrev st_m_Dial_told : Stmt := inClass (top 12) 7
theorem sc_m_Dial_told : FnScope N_m_Dial_told ["self"] (defScope st_m_Dial_told) := ⟨rfl, rfl, rfl, by decide +kernel, rfl, by decide +kernel, by decide +kernel⟩
theorem cal_m_Dial_told {P : Program} {w : World} {K : PySem.W.Frag} {mg : Str → Option Value} {base : Heap} {k : Nat} (hnd : base.NoDigits) {R : Addr → Prop} (D : Dm K R "told" "Dial.told" st_m_Dial_told ["self"]) {C_Dial : Addr} (k_Dial : Cls K C_Dial) (n_Dial_standing : NoAttr K C_Dial "standing") (b_tuple : mg "tuple" = none) (b_sorted : mg "sorted" = none) {S : FSpec}
    (len : ∀ args Q, S.sp args Q → args.length = 1) (hsp : ∀ args Q, S.sp args Q → ir_m_Dial_told C_Dial (endsOf args Q) (rho0 N_m_Dial_told args)) : CalR P w K mg base (k + 1) R ["self"] S := by
  have sc := sc_m_Dial_told
  exact def_calR D sc len (fun f cdv A outer s H E hr hgd =>
    (LSs.one (LS.ret (LF.ofD (LD.bt call_tuple_of ok_tuple rfl b_tuple (by decide +kernel) (LA.cons (LO.ofD (LD.bi (cr_sortT (d := 2) (B := 1000) (by decide)) (ok_sortP 1000) rfl b_sorted (by decide +kernel) (LA.cons (LO.f k_Dial n_Dial_standing (pv 0)) LA.nil))) LA.nil)))))) hsp
abbrev st_law_held_2b08 : Stmt := top 26
theorem sc_law_held_2b08 : FnScope N_law_held_2b08 ["dial", "state", "clock"] (defScope st_law_held_2b08) := ⟨rfl, rfl, rfl, by decide +kernel, rfl, by decide +kernel, by decide +kernel⟩
theorem cal_law_held_2b08 {P : Program} {w : World} {K : PySem.W.Frag} {mg : Str → Option Value} {base : Heap} {k : Nat} (hnd : base.NoDigits) (D : Dn K mg "_law_held" st_law_held_2b08 ["dial", "state", "clock"]) {S_law_due_get_5072 : FSpec} (c_law_due_get_5072 : Cal P w K mg base k "_law_due_get" ["state", "clock", "at"] S_law_due_get_5072) {S_law_get_4e47_e : FSpec} (c_law_get_4e47_e : Cal P w K mg base k "_law_get" ["dial", "at"] S_law_get_4e47_e) {C_Dial : Addr} (k_Dial : Cls K C_Dial) {kl : Nat} (hkl : kl + 1 ≤ k) {S_m_Dial_len : FSpec} (c_m_Dial_len : CalR P w K mg base kl (LenC K C_Dial) ["self"] S_m_Dial_len) {S_m_Dial_told : FSpec} (c_m_Dial_told : CalR P w K mg base k (Meth K C_Dial "told") ["self"] S_m_Dial_told) (b_range : mg "range" = none) (b_len : mg "len" = none) (b_tuple : mg "tuple" = none) (b_sorted : mg "sorted" = none) (b_repr : mg "repr" = none) {S : FSpec}
    (len : ∀ args Q, S.sp args Q → args.length = 3) (hsp : ∀ args Q, S.sp args Q → ir_law_held_2b08 C_Dial S_law_due_get_5072 S_law_get_4e47_e S_m_Dial_len S_m_Dial_told (endsOf args Q) (rho0 N_law_held_2b08 args)) : Cal P w K mg base (k + 1) "_law_held" ["dial", "state", "clock"] S := by
  have sc := sc_law_held_2b08
  exact def_cal D sc len (fun f cdv A outer s H E hr hgd =>
    (LSs.cons (LS.asg (i := 3) sc.nd rfl (by first | exact .inl rfl | exact .inr rfl) (LF.lst (LA.cons (LO.ofD (LD.bt call_tuple_of ok_tuple rfl b_tuple (by decide +kernel) (LA.cons (LO.ofD (LD.bi (cr_sortT (d := 2) (B := 1000) (by decide)) (ok_sortP 1000) rfl b_sorted (by decide +kernel) (LA.cons (LO.ofD (LD.ix (LO.s 1 (pv 1)) (LO.ofD LD.int) (fun _ _ => rfl))) LA.nil))) LA.nil))) (LA.cons (LO.ofD (LD.bi call_lenU ok_len rfl b_len (by decide +kernel) (LA.cons (LO.ofD (LD.ix (LO.s 1 (pv 1)) (LO.ofD LD.int) (fun _ _ => rfl))) LA.nil))) (LA.cons (LO.ofD (LD.ofF (LF.lc (pt := (.nm 4)) (vs := [4]) rfl sc.nd (LI.range1 rfl b_range (LA.cons (LO.s 2 (pv 2)) LA.nil)) (blk_mk (N := N_law_held_2b08) (own := [("at", 4)]) ["state", "clock"] (by decide +kernel) ⟨by first | exact .inl rfl | exact .inr rfl, by first | exact .inl rfl | exact .inr rfl, trivial⟩) rfl (by decide) (fun _ _ _ _ _ => (pg_name (i := 4) sc.nd rfl (by first | exact .inl rfl | exact .inr rfl))) (fun _ _ _ _ _ => LT.yes) (fun _ _ _ _ _ => (LD.ofF (LF.cal c_law_due_get_5072 hr hgd rfl (LA.cons (LO.s 1 (pv 1)) (LA.cons (LO.ofD (LD.var 2 (pv 2))) (LA.cons (LO.ofD (LD.var 4 (pv 4))) LA.nil))))))))) LA.nil)))))
    (LSs.one (LS.ret (LF.ofD (LD.cmp (op_eqU hr.units) ok_eq (LO.ofD (LD.bi (call_repr hr hgd hnd) ok_repr rfl b_repr (by decide +kernel) (LA.cons (LO.ofD (LD.ofF (LF.lst (LA.cons (LO.ofD (LD.ofF (LF.mthS0 k_Dial c_m_Dial_told hr hgd (pv 0) ))) (LA.cons (LO.ofD (LD.lenS c_m_Dial_len (hr.mono hkl) hgd rfl b_len (by decide +kernel) (pv 0))) (LA.cons (LO.ofD (LD.ofF (LF.lc (pt := (.nm 4)) (vs := [4]) rfl sc.nd (LI.range1 rfl b_range (LA.cons (LO.s 2 (pv 2)) LA.nil)) (blk_mk (N := N_law_held_2b08) (own := [("at", 4)]) ["dial"] (by decide +kernel) ⟨by first | exact .inl rfl | exact .inr rfl, trivial⟩) rfl (by decide) (fun _ _ _ _ _ => (pg_name (i := 4) sc.nd rfl (by first | exact .inl rfl | exact .inr rfl))) (fun _ _ _ _ _ => LT.yes) (fun _ _ _ _ _ => (LD.ofF (LF.cal c_law_get_4e47_e hr hgd rfl (LA.cons (LO.s 0 (pv 0)) (LA.cons (LO.ofD (LD.var 4 (pv 4))) LA.nil)))))))) LA.nil)))))) LA.nil))) (LO.ofD (LD.bi (call_repr hr hgd hnd) ok_repr rfl b_repr (by decide +kernel) (LA.cons (LO.s 3 (pv 3)) LA.nil))) (nomark _))))))) hsp
abbrev st_law_odd_ed94 : Stmt := top 27
theorem sc_law_odd_ed94 : FnScope N_law_odd_ed94 ["deck", "clock"] (defScope st_law_odd_ed94) := ⟨rfl, rfl, rfl, by decide +kernel, rfl, by decide +kernel, by decide +kernel⟩
theorem cal_law_odd_ed94 {P : Program} {w : World} {K : PySem.W.Frag} {mg : Str → Option Value} {base : Heap} {k : Nat} (hnd : base.NoDigits) (D : Dn K mg "_law_odd" st_law_odd_ed94 ["deck", "clock"]) {S_law_one_90da : FSpec} (c_law_one_90da : Cal P w K mg base k "_law_one" ["deck", "items"] S_law_one_90da) {S_law_draw_a51a : FSpec} (c_law_draw_a51a : Cal P w K mg base k "_law_draw" ["deck", "many"] S_law_draw_a51a) {S : FSpec}
    (len : ∀ args Q, S.sp args Q → args.length = 2) (hsp : ∀ args Q, S.sp args Q → ir_law_odd_ed94 S_law_one_90da S_law_draw_a51a (endsOf args Q) (rho0 N_law_odd_ed94 args)) : Cal P w K mg base (k + 1) "_law_odd" ["deck", "clock"] S := by
  have sc := sc_law_odd_ed94
  exact def_cal D sc len (fun f cdv A outer s H E hr hgd =>
    (LSs.cons (LS.asg (i := 2) sc.nd rfl (by first | exact .inl rfl | exact .inr rfl) (LF.lst (LA.cons (LO.ofD LD.non) (LA.cons (LO.ofD LD.bl) (LA.cons (LO.ofD LD.bl) (LA.cons (LO.ofD LD.str) (LA.cons (LO.ofD LD.str) (LA.cons (LO.ofD (LD.tup LA.nil)) (LA.cons (LO.ofD (LD.tup (LA.cons (LO.ofD LD.int) LA.nil))) (LA.cons (LO.ofD (LD.ofF (LF.lst LA.nil))) (LA.cons (LO.ofD (LD.ofF (LF.lst (LA.cons (LO.ofD LD.int) LA.nil)))) (LA.cons (LO.ofD (LD.neg (LO.ofD LD.int))) (LA.cons (LO.ofD (LD.var 1 (pv 1))) (LA.cons (LO.ofD (LD.bin op_addD ok_add (LO.s 1 (pv 1)) (LO.ofD LD.int))) (LA.cons (LO.ofD (LD.bin op_sub ok_sub (LO.ofD LD.int) (LO.s 1 (pv 1)))) (LA.cons (LO.ofD (LD.bin op_powW ok_pow (LO.ofD LD.int) (LO.ofD LD.int))) (LA.cons (LO.ofD (LD.tup (LA.cons (LO.ofD LD.int) (LA.cons (LO.ofD LD.int) LA.nil)))) LA.nil)))))))))))))))))
    (LSs.one (LS.ret (LF.cal c_law_one_90da hr hgd rfl (LA.cons (LO.s 0 (pv 0)) (LA.cons (LO.ofD (LD.bin op_addD ok_add (LO.s 2 (pv 2)) (LO.ofD (LD.ofF (LF.lst (LA.cons (LO.ofD (LD.ofF (LF.cal c_law_draw_a51a hr hgd rfl (LA.cons (LO.s 0 (pv 0)) (LA.cons (LO.ofD (LD.var 1 (pv 1))) LA.nil))))) LA.nil)))))) LA.nil))))))) hsp
abbrev st_m_Dial_setitem_e : Stmt := inClass (top 12) 2
theorem sc_m_Dial_setitem_e : FnScope N_m_Dial_setitem_e ["self", "at", "hour"] (defScope st_m_Dial_setitem_e) := ⟨rfl, rfl, rfl, by decide +kernel, rfl, by decide +kernel, by decide +kernel⟩
theorem cal_m_Dial_setitem_e {P : Program} {w : World} {K : PySem.W.Frag} {mg : Str → Option Value} {base : Heap} {k : Nat} (hnd : base.NoDigits) {R : Addr → Prop} (D : Dm K R "__setitem__" "Dial.__setitem__" st_m_Dial_setitem_e ["self", "at", "hour"]) {C_Told : Addr} (m_Told : mg "Told" = some (.ref C_Told)) {C_Full : Addr} (m_Full : mg "Full" = some (.ref C_Full)) (x_Told : ExMk P w K mg base 1 "Told" C_Told ["at"]) (z_Full : Ex0 K C_Full) (hkx : 2 ≤ k) {C_Dial : Addr} (k_Dial : Cls K C_Dial) (n_Dial_standing : NoAttr K C_Dial "standing") (n_Dial_undone : NoAttr K C_Dial "undone") {S_m_Dial_require_e : XSpec} (c_m_Dial_require_e : CalRE P w K mg base k (Meth K C_Dial "require") ["self", "value"] S_m_Dial_require_e) {kg : Nat} (hkg : kg + 1 ≤ k) {S_m_Dial_getitem_e : XSpec} (c_m_Dial_getitem_e : CalRE P w K mg base kg (GetC K C_Dial) ["self", "at"] S_m_Dial_getitem_e) (b_len : mg "len" = none) (g_MOST_TOLD : Glb K mg "MOST_TOLD" (.int 8)) {S : XSpec}
    (len : ∀ args Q E, S.sp args Q E → args.length = 3) (hsp : ∀ args Q E, S.sp args Q E → ir_m_Dial_setitem_e C_Dial C_Told C_Full S_m_Dial_require_e S_m_Dial_getitem_e (endsX args E) (endsOf args Q) (rho0 N_m_Dial_setitem_e args)) : CalRE P w K mg base (k + 1) R ["self", "at", "hour"] S := by
  have sc := sc_m_Dial_setitem_e
  exact def_calRE D sc len (fun f cdv A outer s H E u hr hgd tk =>
    (LSs.cons (LS.drop (LD.ofF (LF.mthSE k_Dial c_m_Dial_require_e hr hgd tk (pv 0) (LA.cons (LO.ofD (LD.var 1 (pv 1))) LA.nil))))
    (LSs.cons (LS.drop (LD.ofF (LF.mthSE k_Dial c_m_Dial_require_e hr hgd tk (pv 0) (LA.cons (LO.ofD (LD.var 2 (pv 2))) LA.nil))))
    (LSs.cons (LS.ite (LT.cmp op_notN ok_notN (LO.ofD (LD.ofF (LF.subS c_m_Dial_getitem_e (hr.mono hkg) hgd tk (pv 0) (LD.var 1 (pv 1))))) (LO.ofD LD.non) (nomark _)) (LSs.one (LS.raise rfl tk x_Told (hr.mono hkx) rfl (LA.cons (LO.ofD (LD.var 1 (pv 1))) LA.nil))) LSs.nil)
    (LSs.cons (LS.ite (LT.cmp (op_eqU hr.units) ok_eq (LO.ofD (LD.bi call_lenU ok_len rfl b_len (by decide +kernel) (LA.cons (LO.f k_Dial n_Dial_standing (pv 0)) LA.nil))) (LO.ofD (LD.glb g_MOST_TOLD rfl)) (nomark _)) (LSs.one (LS.raise0 rfl tk z_Full m_Full rfl)) LSs.nil)
    (LSs.cons (LS.appN k_Dial n_Dial_standing (pe_bm PySem.F.plainAttrs_list PySem.F.slot_list_append PySem.F.type_list_append mt_append (pe_fld (pv 0) rfl) (pa_cons (pD (LD.tup (LA.cons (LO.ofD (LD.var 1 (pv 1))) (LA.cons (LO.ofD (LD.var 2 (pv 2))) LA.nil)))) pa_nil)))
    (LSs.one (LS.setN k_Dial n_Dial_undone (LF.lst LA.nil) (pv 0))))))))) hsp
abbrev st_law_set_a42b_e : Stmt := top 18
theorem sc_law_set_a42b_e : FnScope N_law_set_a42b_e ["dial", "at", "number"] (defScope st_law_set_a42b_e) := ⟨rfl, rfl, rfl, by decide +kernel, rfl, by decide +kernel, by decide +kernel⟩
theorem cal_law_set_a42b_e {P : Program} {w : World} {K : PySem.W.Frag} {mg : Str → Option Value} {base : Heap} {k : Nat} (hnd : base.NoDigits) (D : Dn K mg "_law_set" st_law_set_a42b_e ["dial", "at", "number"]) {C_HourError : Addr} (m_HourError : mg "HourError" = some (.ref C_HourError)) {C_NoHour : Addr} (m_NoHour : mg "NoHour" = some (.ref C_NoHour)) {C_Told : Addr} (m_Told : mg "Told" = some (.ref C_Told)) {C_Full : Addr} (m_Full : mg "Full" = some (.ref C_Full)) {C_NothingTold : Addr} (m_NothingTold : mg "NothingTold" = some (.ref C_NothingTold)) {C_NothingUndone : Addr} (m_NothingUndone : mg "NothingUndone" = some (.ref C_NothingUndone)) (em_NothingTold_HourError : PySem.W.exmOne K (.ref C_NothingTold) (.ref C_HourError) = some true) (em_NothingUndone_HourError : PySem.W.exmOne K (.ref C_NothingUndone) (.ref C_HourError) = some true) (em_Full_Full : PySem.W.exmOne K (.ref C_Full) (.ref C_Full) = some true) (em_NothingTold_Full : PySem.W.exmOne K (.ref C_NothingTold) (.ref C_Full) = some false) (em_NothingUndone_Full : PySem.W.exmOne K (.ref C_NothingUndone) (.ref C_Full) = some false) (xe_Full : ExcC K C_Full) (ki_Full_ValueError : PySem.W.kitOne K (.ref C_Full) (.type "ValueError") = some true) (ki_Full_HourError : PySem.W.kitOne K (.ref C_Full) (.ref C_HourError) = some true) (em_Told_Told : PySem.W.exmOne K (.ref C_Told) (.ref C_Told) = some true) (em_Full_Told : PySem.W.exmOne K (.ref C_Full) (.ref C_Told) = some false) (em_NothingTold_Told : PySem.W.exmOne K (.ref C_NothingTold) (.ref C_Told) = some false) (em_NothingUndone_Told : PySem.W.exmOne K (.ref C_NothingUndone) (.ref C_Told) = some false) (xf_Told : XfC K C_Told) (nx_Told_at : PySem.W.findIn K (.ref C_Told) "at" = some none) (em_NoHour_NoHour : PySem.W.exmOne K (.ref C_NoHour) (.ref C_NoHour) = some true) (em_Told_NoHour : PySem.W.exmOne K (.ref C_Told) (.ref C_NoHour) = some false) (em_Full_NoHour : PySem.W.exmOne K (.ref C_Full) (.ref C_NoHour) = some false) (em_NothingTold_NoHour : PySem.W.exmOne K (.ref C_NothingTold) (.ref C_NoHour) = some false) (em_NothingUndone_NoHour : PySem.W.exmOne K (.ref C_NothingUndone) (.ref C_NoHour) = some false) (xf_NoHour : XfC K C_NoHour) (nx_NoHour_value : PySem.W.findIn K (.ref C_NoHour) "value" = some none) {C_Dial : Addr} (k_Dial : Cls K C_Dial) {S_m_Dial_setitem_e : XSpec} (c_m_Dial_setitem_e : CalRE P w K mg base k (SetC K C_Dial) ["self", "at", "hour"] S_m_Dial_setitem_e) (b_isinstance : mg "isinstance" = none) (b_ValueError : mg "ValueError" = none) {S : FSpec}
    (len : ∀ args Q, S.sp args Q → args.length = 3) (hsp : ∀ args Q, S.sp args Q → ir_law_set_a42b_e C_Dial C_HourError C_NoHour C_Told C_Full C_NothingTold C_NothingUndone S_m_Dial_setitem_e (endsOf args Q) (rho0 N_law_set_a42b_e args)) : Cal P w K mg base (k + 1) "_law_set" ["dial", "at", "number"] S := by
  have sc := sc_law_set_a42b_e
  exact def_cal D sc len (fun f cdv A outer s H E hr hgd =>
    (LSs.cons (LS.try_ rfl rfl sc.nd (fun u pn xe tk hp => (LSs.one (LS.setS c_m_Dial_setitem_e hr hgd tk (pv 0) (LD.var 1 (pv 1)) (LD.var 2 (pv 2))))) (.named ⟨rfl, by decide, .inl m_NoHour⟩ (by intro p hp; simp only [List.mem_cons, List.not_mem_nil, or_false] at hp; rcases hp with rfl | rfl | rfl | rfl | rfl <;> first | exact em_NoHour_NoHour | exact em_Told_NoHour | exact em_Full_NoHour | exact em_NothingTold_NoHour | exact em_NothingUndone_NoHour) rfl rfl (fun a oe C d pn hz hf => (LSs.one (LS.ret (LF.ofD (LD.tup (LA.cons (LO.ofD LD.str) (LA.cons (LO.ofD (LD.xf xf_NoHour nx_NoHour_value hz hf (pv 3))) LA.nil))))))) (.named ⟨rfl, by decide, .inl m_Told⟩ (by intro p hp; simp only [List.mem_cons, List.not_mem_nil, or_false] at hp; rcases hp with rfl | rfl | rfl | rfl <;> first | exact em_Told_Told | exact em_Full_Told | exact em_NothingTold_Told | exact em_NothingUndone_Told) rfl rfl (fun a oe C d pn hz hf => (LSs.one (LS.ret (LF.ofD (LD.tup (LA.cons (LO.ofD LD.str) (LA.cons (LO.ofD (LD.xf xf_Told nx_Told_at hz hf (pv 3))) LA.nil))))))) (.named ⟨rfl, by decide, .inl m_Full⟩ (by intro p hp; simp only [List.mem_cons, List.not_mem_nil, or_false] at hp; rcases hp with rfl | rfl | rfl <;> first | exact em_Full_Full | exact em_NothingTold_Full | exact em_NothingUndone_Full) rfl rfl (fun a oe C d pn hz hf => (LSs.one (LS.ret (LF.ofD (LD.ite (LT.w (LW.and (LT.val (LD.xi xe_Full ki_Full_HourError cv_ref hz hf rfl b_isinstance (pv 3) (pe_gcls rfl m_HourError))) (LW.and1 (LT.val (LD.xi xe_Full ki_Full_ValueError cv_ty hz hf rfl b_isinstance (pv 3) (pe_bltn (v := .ty "ValueError") rfl b_ValueError (by decide +kernel) rfl (by decide) (by decide))))))) LD.str LD.str))))) (.bare ⟨rfl, by decide, .inl m_HourError⟩ (by intro p hp; simp only [List.mem_cons, List.not_mem_nil, or_false] at hp; rcases hp with rfl | rfl <;> first | exact em_NothingTold_HourError | exact em_NothingUndone_HourError) (fun a oe C d pn hz hf => (LSs.one (LS.ret (LF.ofD LD.str)))) .nil)))))
    (LSs.one (LS.ret (LF.ofD LD.str))))) hsp
abbrev st_law_due_7c00 : Stmt := top 19
theorem sc_law_due_7c00 : FnScope N_law_due_7c00 ["state", "clock", "at", "number"] (defScope st_law_due_7c00) := ⟨rfl, rfl, rfl, by decide +kernel, rfl, by decide +kernel, by decide +kernel⟩
theorem cal_law_due_7c00 {P : Program} {w : World} {K : PySem.W.Frag} {mg : Str → Option Value} {base : Heap} {k : Nat} (hnd : base.NoDigits) (D : Dn K mg "_law_due" st_law_due_7c00 ["state", "clock", "at", "number"]) {S_law_is_hour_b9ab : FSpec} (c_law_is_hour_b9ab : Cal P w K mg base k "_law_is_hour" ["value", "clock"] S_law_is_hour_b9ab) (b_len : mg "len" = none) {S : FSpec}
    (len : ∀ args Q, S.sp args Q → args.length = 4) (hsp : ∀ args Q, S.sp args Q → ir_law_due_7c00 S_law_is_hour_b9ab (endsOf args Q) (rho0 N_law_due_7c00 args)) : Cal P w K mg base (k + 1) "_law_due" ["state", "clock", "at", "number"] S := by
  have sc := sc_law_due_7c00
  exact def_cal D sc len (fun f cdv A outer s H E hr hgd =>
    (LSs.cons (LS.ite (LT.not (LT.val (LD.ofF (LF.cal c_law_is_hour_b9ab hr hgd rfl (LA.cons (LO.ofD (LD.var 2 (pv 2))) (LA.cons (LO.ofD (LD.var 1 (pv 1))) LA.nil)))))) (LSs.one (LS.ret (LF.ofD (LD.tup (LA.cons (LO.ofD LD.str) (LA.cons (LO.ofD (LD.var 2 (pv 2))) LA.nil)))))) LSs.nil)
    (LSs.cons (LS.ite (LT.not (LT.val (LD.ofF (LF.cal c_law_is_hour_b9ab hr hgd rfl (LA.cons (LO.ofD (LD.var 3 (pv 3))) (LA.cons (LO.ofD (LD.var 1 (pv 1))) LA.nil)))))) (LSs.one (LS.ret (LF.ofD (LD.tup (LA.cons (LO.ofD LD.str) (LA.cons (LO.ofD (LD.var 3 (pv 3))) LA.nil)))))) LSs.nil)
    (LSs.cons (LS.ite (LT.cmp (op_neU hr.units) ok_ne (LO.ofD (LD.ofF (LF.lc (pt := (.tp [4, 5])) (vs := [4, 5]) rfl sc.nd (LI.seq (LD.ix (LO.s 0 (pv 0)) (LO.ofD LD.int) (fun _ _ => rfl))) (blk_mk (N := N_law_due_7c00) (own := [("place", 4), ("one", 5)]) ["at"] (by decide +kernel) ⟨by first | exact .inl rfl | exact .inr rfl, trivial⟩) rfl (by decide) (fun _ _ _ _ _ => (pg_tup rfl (pgs_cons (pg_name (i := 4) sc.nd rfl (by first | exact .inl rfl | exact .inr rfl)) (pgs_cons (pg_name (i := 5) sc.nd rfl (by first | exact .inl rfl | exact .inr rfl)) pgs_nil)))) (fun _ _ _ _ _ => pts_one (pT (LT.cmp (op_eqU hr.units) ok_eq (LO.s 4 (pv 4)) (LO.s 2 (pv 2)) (nomark _)))) (fun _ _ _ _ _ => LD.int)))) (LO.ofD (LD.ofF (LF.lst LA.nil))) (nomark _)) (LSs.one (LS.ret (LF.ofD (LD.tup (LA.cons (LO.ofD LD.str) (LA.cons (LO.ofD (LD.var 2 (pv 2))) LA.nil)))))) LSs.nil)
    (LSs.cons (LS.ite (LT.cmp (op_eqU hr.units) ok_eq (LO.ofD (LD.bi call_lenU ok_len rfl b_len (by decide +kernel) (LA.cons (LO.ofD (LD.ix (LO.s 0 (pv 0)) (LO.ofD LD.int) (fun _ _ => rfl))) LA.nil))) (LO.ofD LD.int) (nomark _)) (LSs.one (LS.ret (LF.ofD LD.str))) LSs.nil)
    (LSs.cons (LS.setL (LD.bin op_addD ok_add (LO.ofD (LD.ix (LO.s 0 (pv 0)) (LO.ofD LD.int) (fun _ _ => rfl))) (LO.ofD (LD.ofF (LF.lst (LA.cons (LO.ofD (LD.tup (LA.cons (LO.ofD (LD.var 2 (pv 2))) (LA.cons (LO.ofD (LD.var 3 (pv 3))) LA.nil)))) LA.nil))))) (pg_sub (pv 0) (pO (LO.ofD LD.int)) set_list))
    (LSs.cons (LS.setL (LD.ofF (LF.lst LA.nil)) (pg_sub (pv 0) (pO (LO.ofD LD.int)) set_list))
    (LSs.one (LS.ret (LF.ofD LD.str)))))))))) hsp
abbrev st_m_Dial_undo_e : Stmt := inClass (top 12) 5
theorem sc_m_Dial_undo_e : FnScope N_m_Dial_undo_e ["self"] (defScope st_m_Dial_undo_e) := ⟨rfl, rfl, rfl, by decide +kernel, rfl, by decide +kernel, by decide +kernel⟩
theorem cal_m_Dial_undo_e {P : Program} {w : World} {K : PySem.W.Frag} {mg : Str → Option Value} {base : Heap} {k : Nat} (hnd : base.NoDigits) {R : Addr → Prop} (D : Dm K R "undo" "Dial.undo" st_m_Dial_undo_e ["self"]) {C_NothingTold : Addr} (m_NothingTold : mg "NothingTold" = some (.ref C_NothingTold)) (z_NothingTold : Ex0 K C_NothingTold) {C_Dial : Addr} (k_Dial : Cls K C_Dial) (n_Dial_standing : NoAttr K C_Dial "standing") (n_Dial_undone : NoAttr K C_Dial "undone") {S : XSpec}
    (len : ∀ args Q E, S.sp args Q E → args.length = 1) (hsp : ∀ args Q E, S.sp args Q E → ir_m_Dial_undo_e C_Dial C_NothingTold (endsX args E) (endsOf args Q) (rho0 N_m_Dial_undo_e args)) : CalRE P w K mg base (k + 1) R ["self"] S := by
  have sc := sc_m_Dial_undo_e
  exact def_calRE D sc len (fun f cdv A outer s H E u hr hgd tk =>
    (LSs.cons (LS.ite (LT.cmp (op_eqU hr.units) ok_eq (LO.f k_Dial n_Dial_standing (pv 0)) (LO.ofD (LD.ofF (LF.lst LA.nil))) (nomark _)) (LSs.one (LS.raise0 rfl tk z_NothingTold m_NothingTold rfl)) LSs.nil)
    (LSs.cons (LS.appN k_Dial n_Dial_undone (pe_bm PySem.F.plainAttrs_list PySem.F.slot_list_append PySem.F.type_list_append mt_append (pe_fld (pv 0) rfl) (pa_cons (pD (LD.popN k_Dial n_Dial_standing (pe_bm0 PySem.F.plainAttrs_list PySem.F.slot_list_pop PySem.F.type_list_pop mt_pop (pe_fld (pv 0) rfl)))) pa_nil)))
    (LSs.one (LS.ret (LF.ofD (LD.ix (LO.ofD (LD.ix (LO.f k_Dial n_Dial_undone (pv 0)) (LO.ofD (LD.neg (LO.ofD LD.int))) (fun _ _ => rfl))) (LO.ofD LD.int) (fun _ _ => rfl)))))))) hsp
abbrev st_law_undo_81c7_e : Stmt := top 22
theorem sc_law_undo_81c7_e : FnScope N_law_undo_81c7_e ["dial"] (defScope st_law_undo_81c7_e) := ⟨rfl, rfl, rfl, by decide +kernel, rfl, by decide +kernel, by decide +kernel⟩
theorem cal_law_undo_81c7_e {P : Program} {w : World} {K : PySem.W.Frag} {mg : Str → Option Value} {base : Heap} {k : Nat} (hnd : base.NoDigits) (D : Dn K mg "_law_undo" st_law_undo_81c7_e ["dial"]) {C_HourError : Addr} (m_HourError : mg "HourError" = some (.ref C_HourError)) {C_NoHour : Addr} (m_NoHour : mg "NoHour" = some (.ref C_NoHour)) {C_Told : Addr} (m_Told : mg "Told" = some (.ref C_Told)) {C_Full : Addr} (m_Full : mg "Full" = some (.ref C_Full)) {C_NothingTold : Addr} (m_NothingTold : mg "NothingTold" = some (.ref C_NothingTold)) {C_NothingUndone : Addr} (m_NothingUndone : mg "NothingUndone" = some (.ref C_NothingUndone)) (em_NoHour_HourError : PySem.W.exmOne K (.ref C_NoHour) (.ref C_HourError) = some true) (em_Told_HourError : PySem.W.exmOne K (.ref C_Told) (.ref C_HourError) = some true) (em_Full_HourError : PySem.W.exmOne K (.ref C_Full) (.ref C_HourError) = some true) (em_NothingUndone_HourError : PySem.W.exmOne K (.ref C_NothingUndone) (.ref C_HourError) = some true) (em_NoHour_NothingTold : PySem.W.exmOne K (.ref C_NoHour) (.ref C_NothingTold) = some false) (em_Told_NothingTold : PySem.W.exmOne K (.ref C_Told) (.ref C_NothingTold) = some false) (em_Full_NothingTold : PySem.W.exmOne K (.ref C_Full) (.ref C_NothingTold) = some false) (em_NothingTold_NothingTold : PySem.W.exmOne K (.ref C_NothingTold) (.ref C_NothingTold) = some true) (em_NothingUndone_NothingTold : PySem.W.exmOne K (.ref C_NothingUndone) (.ref C_NothingTold) = some false) (xe_NothingTold : ExcC K C_NothingTold) (ki_NothingTold_ValueError : PySem.W.kitOne K (.ref C_NothingTold) (.type "ValueError") = some true) (ki_NothingTold_HourError : PySem.W.kitOne K (.ref C_NothingTold) (.ref C_HourError) = some true) {C_Dial : Addr} (k_Dial : Cls K C_Dial) {S_m_Dial_undo_e : XSpec} (c_m_Dial_undo_e : CalRE P w K mg base k (Meth K C_Dial "undo") ["self"] S_m_Dial_undo_e) (b_isinstance : mg "isinstance" = none) (b_ValueError : mg "ValueError" = none) {S : FSpec}
    (len : ∀ args Q, S.sp args Q → args.length = 1) (hsp : ∀ args Q, S.sp args Q → ir_law_undo_81c7_e C_Dial C_HourError C_NoHour C_Told C_Full C_NothingTold C_NothingUndone S_m_Dial_undo_e (endsOf args Q) (rho0 N_law_undo_81c7_e args)) : Cal P w K mg base (k + 1) "_law_undo" ["dial"] S := by
  have sc := sc_law_undo_81c7_e
  exact def_cal D sc len (fun f cdv A outer s H E hr hgd =>
    (LSs.one (LS.try_ rfl rfl sc.nd (fun u pn xe tk hp => (LSs.one (LS.ret (LF.mthSE0 k_Dial c_m_Dial_undo_e hr hgd tk (pv 0) )))) (.named ⟨rfl, by decide, .inl m_NothingTold⟩ (by intro p hp; simp only [List.mem_cons, List.not_mem_nil, or_false] at hp; rcases hp with rfl | rfl | rfl | rfl | rfl <;> first | exact em_NoHour_NothingTold | exact em_Told_NothingTold | exact em_Full_NothingTold | exact em_NothingTold_NothingTold | exact em_NothingUndone_NothingTold) rfl rfl (fun a oe C d pn hz hf => (LSs.one (LS.ret (LF.ofD (LD.ite (LT.w (LW.and (LT.val (LD.xi xe_NothingTold ki_NothingTold_HourError cv_ref hz hf rfl b_isinstance (pv 1) (pe_gcls rfl m_HourError))) (LW.and1 (LT.val (LD.xi xe_NothingTold ki_NothingTold_ValueError cv_ty hz hf rfl b_isinstance (pv 1) (pe_bltn (v := .ty "ValueError") rfl b_ValueError (by decide +kernel) rfl (by decide) (by decide))))))) LD.str LD.str))))) (.bare ⟨rfl, by decide, .inl m_HourError⟩ (by intro p hp; simp only [List.mem_cons, List.not_mem_nil, or_false] at hp; rcases hp with rfl | rfl | rfl | rfl <;> first | exact em_NoHour_HourError | exact em_Told_HourError | exact em_Full_HourError | exact em_NothingUndone_HourError) (fun a oe C d pn hz hf => (LSs.one (LS.ret (LF.ofD LD.str)))) .nil))))) hsp
abbrev st_law_due_undo_8883 : Stmt := top 24
theorem sc_law_due_undo_8883 : FnScope N_law_due_undo_8883 ["state"] (defScope st_law_due_undo_8883) := ⟨rfl, rfl, rfl, by decide +kernel, rfl, by decide +kernel, by decide +kernel⟩
theorem cal_law_due_undo_8883 {P : Program} {w : World} {K : PySem.W.Frag} {mg : Str → Option Value} {base : Heap} {k : Nat} (hnd : base.NoDigits) (D : Dn K mg "_law_due_undo" st_law_due_undo_8883 ["state"]) {S : FSpec}
    (len : ∀ args Q, S.sp args Q → args.length = 1) (hsp : ∀ args Q, S.sp args Q → ir_law_due_undo_8883 (endsOf args Q) (rho0 N_law_due_undo_8883 args)) : Cal P w K mg base (k + 1) "_law_due_undo" ["state"] S := by
  have sc := sc_law_due_undo_8883
  exact def_cal D sc len (fun f cdv A outer s H E hr hgd =>
    (LSs.cons (LS.ite (LT.cmp (op_eqU hr.units) ok_eq (LO.ofD (LD.ix (LO.s 0 (pv 0)) (LO.ofD LD.int) (fun _ _ => rfl))) (LO.ofD (LD.ofF (LF.lst LA.nil))) (nomark _)) (LSs.one (LS.ret (LF.ofD LD.str))) LSs.nil)
    (LSs.cons (LS.setL (LD.bin op_addD ok_add (LO.ofD (LD.ix (LO.s 0 (pv 0)) (LO.ofD LD.int) (fun _ _ => rfl))) (LO.ofD (LD.sl (LO.ofD (LD.ix (LO.s 0 (pv 0)) (LO.ofD LD.int) (fun _ _ => rfl))) (LP.some (LO.ofD (LD.neg (LO.ofD LD.int)))) LP.none))) (pg_sub (pv 0) (pO (LO.ofD LD.int)) set_list))
    (LSs.cons (LS.setL (LD.sl (LO.ofD (LD.ix (LO.s 0 (pv 0)) (LO.ofD LD.int) (fun _ _ => rfl))) LP.none (LP.some (LO.ofD (LD.neg (LO.ofD LD.int))))) (pg_sub (pv 0) (pO (LO.ofD LD.int)) set_list))
    (LSs.one (LS.ret (LF.ofD (LD.ix (LO.ofD (LD.ix (LO.ofD (LD.ix (LO.s 0 (pv 0)) (LO.ofD LD.int) (fun _ _ => rfl))) (LO.ofD (LD.neg (LO.ofD LD.int))) (fun _ _ => rfl))) (LO.ofD LD.int) (fun _ _ => rfl))))))))) hsp
abbrev st_m_Dial_redo_e : Stmt := inClass (top 12) 6
theorem sc_m_Dial_redo_e : FnScope N_m_Dial_redo_e ["self"] (defScope st_m_Dial_redo_e) := ⟨rfl, rfl, rfl, by decide +kernel, rfl, by decide +kernel, by decide +kernel⟩
theorem cal_m_Dial_redo_e {P : Program} {w : World} {K : PySem.W.Frag} {mg : Str → Option Value} {base : Heap} {k : Nat} (hnd : base.NoDigits) {R : Addr → Prop} (D : Dm K R "redo" "Dial.redo" st_m_Dial_redo_e ["self"]) {C_NothingUndone : Addr} (m_NothingUndone : mg "NothingUndone" = some (.ref C_NothingUndone)) (z_NothingUndone : Ex0 K C_NothingUndone) {C_Dial : Addr} (k_Dial : Cls K C_Dial) (n_Dial_undone : NoAttr K C_Dial "undone") (n_Dial_standing : NoAttr K C_Dial "standing") {S : XSpec}
    (len : ∀ args Q E, S.sp args Q E → args.length = 1) (hsp : ∀ args Q E, S.sp args Q E → ir_m_Dial_redo_e C_Dial C_NothingUndone (endsX args E) (endsOf args Q) (rho0 N_m_Dial_redo_e args)) : CalRE P w K mg base (k + 1) R ["self"] S := by
  have sc := sc_m_Dial_redo_e
  exact def_calRE D sc len (fun f cdv A outer s H E u hr hgd tk =>
    (LSs.cons (LS.ite (LT.cmp (op_eqU hr.units) ok_eq (LO.f k_Dial n_Dial_undone (pv 0)) (LO.ofD (LD.ofF (LF.lst LA.nil))) (nomark _)) (LSs.one (LS.raise0 rfl tk z_NothingUndone m_NothingUndone rfl)) LSs.nil)
    (LSs.cons (LS.appN k_Dial n_Dial_standing (pe_bm PySem.F.plainAttrs_list PySem.F.slot_list_append PySem.F.type_list_append mt_append (pe_fld (pv 0) rfl) (pa_cons (pD (LD.popN k_Dial n_Dial_undone (pe_bm0 PySem.F.plainAttrs_list PySem.F.slot_list_pop PySem.F.type_list_pop mt_pop (pe_fld (pv 0) rfl)))) pa_nil)))
    (LSs.one (LS.ret (LF.ofD (LD.ix (LO.ofD (LD.ix (LO.f k_Dial n_Dial_standing (pv 0)) (LO.ofD (LD.neg (LO.ofD LD.int))) (fun _ _ => rfl))) (LO.ofD LD.int) (fun _ _ => rfl)))))))) hsp
abbrev st_law_redo_d6e1_e : Stmt := top 23
theorem sc_law_redo_d6e1_e : FnScope N_law_redo_d6e1_e ["dial"] (defScope st_law_redo_d6e1_e) := ⟨rfl, rfl, rfl, by decide +kernel, rfl, by decide +kernel, by decide +kernel⟩
theorem cal_law_redo_d6e1_e {P : Program} {w : World} {K : PySem.W.Frag} {mg : Str → Option Value} {base : Heap} {k : Nat} (hnd : base.NoDigits) (D : Dn K mg "_law_redo" st_law_redo_d6e1_e ["dial"]) {C_HourError : Addr} (m_HourError : mg "HourError" = some (.ref C_HourError)) {C_NoHour : Addr} (m_NoHour : mg "NoHour" = some (.ref C_NoHour)) {C_Told : Addr} (m_Told : mg "Told" = some (.ref C_Told)) {C_Full : Addr} (m_Full : mg "Full" = some (.ref C_Full)) {C_NothingTold : Addr} (m_NothingTold : mg "NothingTold" = some (.ref C_NothingTold)) {C_NothingUndone : Addr} (m_NothingUndone : mg "NothingUndone" = some (.ref C_NothingUndone)) (em_NoHour_HourError : PySem.W.exmOne K (.ref C_NoHour) (.ref C_HourError) = some true) (em_Told_HourError : PySem.W.exmOne K (.ref C_Told) (.ref C_HourError) = some true) (em_Full_HourError : PySem.W.exmOne K (.ref C_Full) (.ref C_HourError) = some true) (em_NothingTold_HourError : PySem.W.exmOne K (.ref C_NothingTold) (.ref C_HourError) = some true) (em_NoHour_NothingUndone : PySem.W.exmOne K (.ref C_NoHour) (.ref C_NothingUndone) = some false) (em_Told_NothingUndone : PySem.W.exmOne K (.ref C_Told) (.ref C_NothingUndone) = some false) (em_Full_NothingUndone : PySem.W.exmOne K (.ref C_Full) (.ref C_NothingUndone) = some false) (em_NothingTold_NothingUndone : PySem.W.exmOne K (.ref C_NothingTold) (.ref C_NothingUndone) = some false) (em_NothingUndone_NothingUndone : PySem.W.exmOne K (.ref C_NothingUndone) (.ref C_NothingUndone) = some true) (xe_NothingUndone : ExcC K C_NothingUndone) (ki_NothingUndone_ValueError : PySem.W.kitOne K (.ref C_NothingUndone) (.type "ValueError") = some true) (ki_NothingUndone_HourError : PySem.W.kitOne K (.ref C_NothingUndone) (.ref C_HourError) = some true) {C_Dial : Addr} (k_Dial : Cls K C_Dial) {S_m_Dial_redo_e : XSpec} (c_m_Dial_redo_e : CalRE P w K mg base k (Meth K C_Dial "redo") ["self"] S_m_Dial_redo_e) (b_isinstance : mg "isinstance" = none) (b_ValueError : mg "ValueError" = none) {S : FSpec}
    (len : ∀ args Q, S.sp args Q → args.length = 1) (hsp : ∀ args Q, S.sp args Q → ir_law_redo_d6e1_e C_Dial C_HourError C_NoHour C_Told C_Full C_NothingTold C_NothingUndone S_m_Dial_redo_e (endsOf args Q) (rho0 N_law_redo_d6e1_e args)) : Cal P w K mg base (k + 1) "_law_redo" ["dial"] S := by
  have sc := sc_law_redo_d6e1_e
  exact def_cal D sc len (fun f cdv A outer s H E hr hgd =>
    (LSs.one (LS.try_ rfl rfl sc.nd (fun u pn xe tk hp => (LSs.one (LS.ret (LF.mthSE0 k_Dial c_m_Dial_redo_e hr hgd tk (pv 0) )))) (.named ⟨rfl, by decide, .inl m_NothingUndone⟩ (by intro p hp; simp only [List.mem_cons, List.not_mem_nil, or_false] at hp; rcases hp with rfl | rfl | rfl | rfl | rfl <;> first | exact em_NoHour_NothingUndone | exact em_Told_NothingUndone | exact em_Full_NothingUndone | exact em_NothingTold_NothingUndone | exact em_NothingUndone_NothingUndone) rfl rfl (fun a oe C d pn hz hf => (LSs.one (LS.ret (LF.ofD (LD.ite (LT.w (LW.and (LT.val (LD.xi xe_NothingUndone ki_NothingUndone_HourError cv_ref hz hf rfl b_isinstance (pv 1) (pe_gcls rfl m_HourError))) (LW.and1 (LT.val (LD.xi xe_NothingUndone ki_NothingUndone_ValueError cv_ty hz hf rfl b_isinstance (pv 1) (pe_bltn (v := .ty "ValueError") rfl b_ValueError (by decide +kernel) rfl (by decide) (by decide))))))) LD.str LD.str))))) (.bare ⟨rfl, by decide, .inl m_HourError⟩ (by intro p hp; simp only [List.mem_cons, List.not_mem_nil, or_false] at hp; rcases hp with rfl | rfl | rfl | rfl <;> first | exact em_NoHour_HourError | exact em_Told_HourError | exact em_Full_HourError | exact em_NothingTold_HourError) (fun a oe C d pn hz hf => (LSs.one (LS.ret (LF.ofD LD.str)))) .nil))))) hsp
abbrev st_law_due_redo_e502 : Stmt := top 25
theorem sc_law_due_redo_e502 : FnScope N_law_due_redo_e502 ["state"] (defScope st_law_due_redo_e502) := ⟨rfl, rfl, rfl, by decide +kernel, rfl, by decide +kernel, by decide +kernel⟩
theorem cal_law_due_redo_e502 {P : Program} {w : World} {K : PySem.W.Frag} {mg : Str → Option Value} {base : Heap} {k : Nat} (hnd : base.NoDigits) (D : Dn K mg "_law_due_redo" st_law_due_redo_e502 ["state"]) {S : FSpec}
    (len : ∀ args Q, S.sp args Q → args.length = 1) (hsp : ∀ args Q, S.sp args Q → ir_law_due_redo_e502 (endsOf args Q) (rho0 N_law_due_redo_e502 args)) : Cal P w K mg base (k + 1) "_law_due_redo" ["state"] S := by
  have sc := sc_law_due_redo_e502
  exact def_cal D sc len (fun f cdv A outer s H E hr hgd =>
    (LSs.cons (LS.ite (LT.cmp (op_eqU hr.units) ok_eq (LO.ofD (LD.ix (LO.s 0 (pv 0)) (LO.ofD LD.int) (fun _ _ => rfl))) (LO.ofD (LD.ofF (LF.lst LA.nil))) (nomark _)) (LSs.one (LS.ret (LF.ofD LD.str))) LSs.nil)
    (LSs.cons (LS.setL (LD.bin op_addD ok_add (LO.ofD (LD.ix (LO.s 0 (pv 0)) (LO.ofD LD.int) (fun _ _ => rfl))) (LO.ofD (LD.sl (LO.ofD (LD.ix (LO.s 0 (pv 0)) (LO.ofD LD.int) (fun _ _ => rfl))) (LP.some (LO.ofD (LD.neg (LO.ofD LD.int)))) LP.none))) (pg_sub (pv 0) (pO (LO.ofD LD.int)) set_list))
    (LSs.cons (LS.setL (LD.sl (LO.ofD (LD.ix (LO.s 0 (pv 0)) (LO.ofD LD.int) (fun _ _ => rfl))) LP.none (LP.some (LO.ofD (LD.neg (LO.ofD LD.int))))) (pg_sub (pv 0) (pO (LO.ofD LD.int)) set_list))
    (LSs.one (LS.ret (LF.ofD (LD.ix (LO.ofD (LD.ix (LO.ofD (LD.ix (LO.s 0 (pv 0)) (LO.ofD LD.int) (fun _ _ => rfl))) (LO.ofD (LD.neg (LO.ofD LD.int))) (fun _ _ => rfl))) (LO.ofD LD.int) (fun _ _ => rfl))))))))) hsp
abbrev st_law_deed_9eae : Stmt := top 28
theorem sc_law_deed_9eae : FnScope N_law_deed_9eae ["deck", "dial", "state", "clock"] (defScope st_law_deed_9eae) := ⟨rfl, rfl, rfl, by decide +kernel, rfl, by decide +kernel, by decide +kernel⟩
theorem cal_law_deed_9eae {P : Program} {w : World} {K : PySem.W.Frag} {mg : Str → Option Value} {base : Heap} {k : Nat} (hnd : base.NoDigits) (D : Dn K mg "_law_deed" st_law_deed_9eae ["deck", "dial", "state", "clock"]) {S_law_draw_a51a : FSpec} (c_law_draw_a51a : Cal P w K mg base k "_law_draw" ["deck", "many"] S_law_draw_a51a) {S_law_odd_ed94 : FSpec} (c_law_odd_ed94 : Cal P w K mg base k "_law_odd" ["deck", "clock"] S_law_odd_ed94) {S_law_set_a42b_e : FSpec} (c_law_set_a42b_e : Cal P w K mg base k "_law_set" ["dial", "at", "number"] S_law_set_a42b_e) {S_law_due_7c00 : FSpec} (c_law_due_7c00 : Cal P w K mg base k "_law_due" ["state", "clock", "at", "number"] S_law_due_7c00) {S_law_undo_81c7_e : FSpec} (c_law_undo_81c7_e : Cal P w K mg base k "_law_undo" ["dial"] S_law_undo_81c7_e) {S_law_due_undo_8883 : FSpec} (c_law_due_undo_8883 : Cal P w K mg base k "_law_due_undo" ["state"] S_law_due_undo_8883) {S_law_redo_d6e1_e : FSpec} (c_law_redo_d6e1_e : Cal P w K mg base k "_law_redo" ["dial"] S_law_redo_d6e1_e) {S_law_due_redo_e502 : FSpec} (c_law_due_redo_e502 : Cal P w K mg base k "_law_due_redo" ["state"] S_law_due_redo_e502) {S_law_get_4e47_e : FSpec} (c_law_get_4e47_e : Cal P w K mg base k "_law_get" ["dial", "at"] S_law_get_4e47_e) {S_law_due_get_5072 : FSpec} (c_law_due_get_5072 : Cal P w K mg base k "_law_due_get" ["state", "clock", "at"] S_law_due_get_5072) (b_repr : mg "repr" = none) {S : FSpec}
    (len : ∀ args Q, S.sp args Q → args.length = 4) (hsp : ∀ args Q, S.sp args Q → ir_law_deed_9eae S_law_draw_a51a S_law_odd_ed94 S_law_set_a42b_e S_law_due_7c00 S_law_undo_81c7_e S_law_due_undo_8883 S_law_redo_d6e1_e S_law_due_redo_e502 S_law_get_4e47_e S_law_due_get_5072 (endsOf args Q) (rho0 N_law_deed_9eae args)) : Cal P w K mg base (k + 1) "_law_deed" ["deck", "dial", "state", "clock"] S := by
  have sc := sc_law_deed_9eae
  exact def_cal D sc len (fun f cdv A outer s H E hr hgd =>
    (LSs.cons (LS.asg (i := 4) sc.nd rfl (by first | exact .inl rfl | exact .inr rfl) (LF.cal c_law_draw_a51a hr hgd rfl (LA.cons (LO.s 0 (pv 0)) (LA.cons (LO.ofD LD.int) LA.nil))))
    (LSs.cons (LS.ite (LT.cmp op_lt (ok_cI _) (LO.s 4 (pv 4)) (LO.ofD LD.int) (nomark _)) (LSs.cons (LS.asg (i := 5) sc.nd rfl (by first | exact .inl rfl | exact .inr rfl) (LF.ofD (LD.ite (LT.cmp op_gt (ok_cI _) (LO.ofD (LD.ofF (LF.cal c_law_draw_a51a hr hgd rfl (LA.cons (LO.s 0 (pv 0)) (LA.cons (LO.ofD LD.int) LA.nil))))) (LO.ofD LD.int) (nomark _)) (LD.ofF (LF.cal c_law_draw_a51a hr hgd rfl (LA.cons (LO.s 0 (pv 0)) (LA.cons (LO.ofD (LD.var 3 (pv 3))) LA.nil)))) (LD.ofF (LF.cal c_law_odd_ed94 hr hgd rfl (LA.cons (LO.s 0 (pv 0)) (LA.cons (LO.ofD (LD.var 3 (pv 3))) LA.nil)))))))
    (LSs.cons (LS.asg (i := 6) sc.nd rfl (by first | exact .inl rfl | exact .inr rfl) (LF.ofD (LD.ite (LT.cmp op_gt (ok_cI _) (LO.ofD (LD.ofF (LF.cal c_law_draw_a51a hr hgd rfl (LA.cons (LO.s 0 (pv 0)) (LA.cons (LO.ofD LD.int) LA.nil))))) (LO.ofD LD.int) (nomark _)) (LD.ofF (LF.cal c_law_draw_a51a hr hgd rfl (LA.cons (LO.s 0 (pv 0)) (LA.cons (LO.ofD (LD.var 3 (pv 3))) LA.nil)))) (LD.ofF (LF.cal c_law_odd_ed94 hr hgd rfl (LA.cons (LO.s 0 (pv 0)) (LA.cons (LO.ofD (LD.var 3 (pv 3))) LA.nil)))))))
    (LSs.one (LS.ret (LF.ofD (LD.cmp (op_eqU hr.units) ok_eq (LO.ofD (LD.bi (call_repr hr hgd hnd) ok_repr rfl b_repr (by decide +kernel) (LA.cons (LO.ofD (LD.ofF (LF.cal c_law_set_a42b_e hr hgd rfl (LA.cons (LO.s 1 (pv 1)) (LA.cons (LO.ofD (LD.var 5 (pv 5))) (LA.cons (LO.ofD (LD.var 6 (pv 6))) LA.nil)))))) LA.nil))) (LO.ofD (LD.bi (call_repr hr hgd hnd) ok_repr rfl b_repr (by decide +kernel) (LA.cons (LO.ofD (LD.ofF (LF.cal c_law_due_7c00 hr hgd rfl (LA.cons (LO.s 2 (pv 2)) (LA.cons (LO.ofD (LD.var 3 (pv 3))) (LA.cons (LO.ofD (LD.var 5 (pv 5))) (LA.cons (LO.ofD (LD.var 6 (pv 6))) LA.nil))))))) LA.nil))) (nomark _))))))) LSs.nil)
    (LSs.cons (LS.ite (LT.cmp op_lt (ok_cI _) (LO.s 4 (pv 4)) (LO.ofD LD.int) (nomark _)) (LSs.one (LS.ret (LF.ofD (LD.cmp (op_eqU hr.units) ok_eq (LO.ofD (LD.bi (call_repr hr hgd hnd) ok_repr rfl b_repr (by decide +kernel) (LA.cons (LO.ofD (LD.ofF (LF.cal c_law_undo_81c7_e hr hgd rfl (LA.cons (LO.s 1 (pv 1)) LA.nil)))) LA.nil))) (LO.ofD (LD.bi (call_repr hr hgd hnd) ok_repr rfl b_repr (by decide +kernel) (LA.cons (LO.ofD (LD.ofF (LF.cal c_law_due_undo_8883 hr hgd rfl (LA.cons (LO.s 2 (pv 2)) LA.nil)))) LA.nil))) (nomark _))))) LSs.nil)
    (LSs.cons (LS.ite (LT.cmp op_lt (ok_cI _) (LO.s 4 (pv 4)) (LO.ofD LD.int) (nomark _)) (LSs.one (LS.ret (LF.ofD (LD.cmp (op_eqU hr.units) ok_eq (LO.ofD (LD.bi (call_repr hr hgd hnd) ok_repr rfl b_repr (by decide +kernel) (LA.cons (LO.ofD (LD.ofF (LF.cal c_law_redo_d6e1_e hr hgd rfl (LA.cons (LO.s 1 (pv 1)) LA.nil)))) LA.nil))) (LO.ofD (LD.bi (call_repr hr hgd hnd) ok_repr rfl b_repr (by decide +kernel) (LA.cons (LO.ofD (LD.ofF (LF.cal c_law_due_redo_e502 hr hgd rfl (LA.cons (LO.s 2 (pv 2)) LA.nil)))) LA.nil))) (nomark _))))) LSs.nil)
    (LSs.cons (LS.asg (i := 7) sc.nd rfl (by first | exact .inl rfl | exact .inr rfl) (LF.cal c_law_odd_ed94 hr hgd rfl (LA.cons (LO.s 0 (pv 0)) (LA.cons (LO.ofD (LD.var 3 (pv 3))) LA.nil))))
    (LSs.one (LS.ret (LF.ofD (LD.cmp (op_eqU hr.units) ok_eq (LO.ofD (LD.bi (call_repr hr hgd hnd) ok_repr rfl b_repr (by decide +kernel) (LA.cons (LO.ofD (LD.ofF (LF.cal c_law_get_4e47_e hr hgd rfl (LA.cons (LO.s 1 (pv 1)) (LA.cons (LO.ofD (LD.var 7 (pv 7))) LA.nil))))) LA.nil))) (LO.ofD (LD.bi (call_repr hr hgd hnd) ok_repr rfl b_repr (by decide +kernel) (LA.cons (LO.ofD (LD.ofF (LF.cal c_law_due_get_5072 hr hgd rfl (LA.cons (LO.s 2 (pv 2)) (LA.cons (LO.ofD (LD.var 3 (pv 3))) (LA.cons (LO.ofD (LD.var 7 (pv 7))) LA.nil)))))) LA.nil))) (nomark _))))))))))) hsp
abbrev st_m_Dial_init : Stmt := inClass (top 12) 0
theorem sc_m_Dial_init : FnScope N_m_Dial_init ["self", "clock"] (defScope st_m_Dial_init) := ⟨rfl, rfl, rfl, by decide +kernel, rfl, by decide +kernel, by decide +kernel⟩
theorem cal_m_Dial_init {P : Program} {w : World} {K : PySem.W.Frag} {mg : Str → Option Value} {base : Heap} {k : Nat} (hnd : base.NoDigits) {R : Addr → Prop} (D : DmX K R "__init__" "Dial.__init__" st_m_Dial_init ["self", "clock"] []) {C_Dial : Addr} (k_Dial : Cls K C_Dial) (n_Dial_clock : NoAttr K C_Dial "clock") (n_Dial_standing : NoAttr K C_Dial "standing") (n_Dial_undone : NoAttr K C_Dial "undone") {S : FSpec}
    (len : ∀ args Q, S.sp args Q → args.length = 2) (hsp : ∀ args Q, S.sp args Q → ir_m_Dial_init C_Dial (endsOf args Q) (rho0 N_m_Dial_init args)) : CalX P w K mg base (k + 1) R ["self", "clock"] S [] := by
  have sc := sc_m_Dial_init
  exact def_calX D sc len (fun f cdv A outer s H E hr hgd =>
    (LSs.cons (LS.setF k_Dial n_Dial_clock (LD.var 1 (pv 1)) (pv 0))
    (LSs.cons (LS.setN k_Dial n_Dial_standing (LF.lst LA.nil) (pv 0))
    (LSs.one (LS.setN k_Dial n_Dial_undone (LF.lst LA.nil) (pv 0)))))) hsp
abbrev st_law : Stmt := top 29
theorem sc_law : FnScope N_law ["script"] (defScope st_law) := ⟨rfl, rfl, rfl, by decide +kernel, rfl, by decide +kernel, by decide +kernel⟩
theorem fn_law {P : Program} {w : World} {K : PySem.W.Frag} {mg : Str → Option Value} {base : Heap} {k : Nat} (hnd : base.NoDigits) {fa : Addr} {fd : FuncData} (Fn : Fun K "law" "law" st_law fa fd) {S_law_deck_91e6 : FSpec} (c_law_deck_91e6 : Cal P w K mg base k "_law_deck" ["script"] S_law_deck_91e6) {S_law_one_90da : FSpec} (c_law_one_90da : Cal P w K mg base k "_law_one" ["deck", "items"] S_law_one_90da) {S_law_draw_a51a : FSpec} (c_law_draw_a51a : Cal P w K mg base k "_law_draw" ["deck", "many"] S_law_draw_a51a) {S_law_held_2b08 : FSpec} (c_law_held_2b08 : Cal P w K mg base k "_law_held" ["dial", "state", "clock"] S_law_held_2b08) {S_law_deed_9eae : FSpec} (c_law_deed_9eae : Cal P w K mg base k "_law_deed" ["deck", "dial", "state", "clock"] S_law_deed_9eae) {S_law_undo_81c7_e : FSpec} (c_law_undo_81c7_e : Cal P w K mg base k "_law_undo" ["dial"] S_law_undo_81c7_e) {S_law_due_undo_8883 : FSpec} (c_law_due_undo_8883 : Cal P w K mg base k "_law_due_undo" ["state"] S_law_due_undo_8883) {C_Dial : Addr} (k_Dial : Cls K C_Dial) (m_Dial : mg "Dial" = some (.ref C_Dial)) {k0 : Nat} (hk0 : k0 + 1 ≤ k) {S_m_Dial_init : FSpec} (c_m_Dial_init : CalX P w K mg base k0 (Mk K C_Dial) ["self", "clock"] S_m_Dial_init []) {kl : Nat} (hkl : kl + 1 ≤ k) {S_m_Dial_len : FSpec} (c_m_Dial_len : CalR P w K mg base kl (LenC K C_Dial) ["self"] S_m_Dial_len) (b_range : mg "range" = none) (b_repr : mg "repr" = none) (b_len : mg "len" = none) {S : FSpec}
    (len : ∀ args Q, S.sp args Q → args.length = 1) (hsp : ∀ args Q, S.sp args Q → ir_law C_Dial S_law_deck_91e6 S_law_one_90da S_law_draw_a51a S_law_held_2b08 S_law_deed_9eae S_law_undo_81c7_e S_law_due_undo_8883 S_m_Dial_init S_m_Dial_len (endsOf args Q) (rho0 N_law args)) : FnG P w K mg base CX0 (k + 1) fa fd ["script"] (liftC K S) := by
  have sc := sc_law
  exact def_ok Fn sc len (fun cdv A outer s H E hr hgd =>
    (LSs.cons (LS.asg (i := 1) sc.nd rfl (by first | exact .inl rfl | exact .inr rfl) (LF.cal c_law_deck_91e6 hr hgd rfl (LA.cons (LO.s 0 (pv 0)) LA.nil)))
    (LSs.cons (LS.for (pt := (.nm 2)) PassesOwn.never rfl (LI.range1 rfl b_range (LA.cons (LO.ofD LD.int) LA.nil)) (pg_name (i := 2) sc.nd rfl (by first | exact .inl rfl | exact .inr rfl)) (LSs.cons (LS.asg (i := 3) sc.nd rfl (by first | exact .inl rfl | exact .inr rfl) (LF.cal c_law_one_90da hr hgd rfl (LA.cons (LO.s 1 (pv 1)) (LA.cons (LO.ofD (LD.ofF (LF.lst (LA.cons (LO.ofD (LD.bin op_addD ok_add (LO.ofD LD.int) (LO.ofD (LD.ofF (LF.cal c_law_draw_a51a hr hgd rfl (LA.cons (LO.s 1 (pv 1)) (LA.cons (LO.ofD LD.int) LA.nil))))))) (LA.cons (LO.ofD (LD.bin op_addD ok_add (LO.ofD LD.int) (LO.ofD (LD.ofF (LF.cal c_law_draw_a51a hr hgd rfl (LA.cons (LO.s 1 (pv 1)) (LA.cons (LO.ofD LD.int) LA.nil))))))) (LA.cons (LO.ofD LD.int) (LA.cons (LO.ofD LD.int) LA.nil))))))) LA.nil))))
    (LSs.cons (LS.par (i := 4) (j := 5) rfl sc.nd rfl rfl (by decide) rfl rfl (LF.mkCN c_m_Dial_init.toR (hr.mono hk0) hgd rfl m_Dial (LA.cons (LO.ofD (LD.var 3 (pv 3))) LA.nil)) (LF.lst (LA.cons (LO.ofD (LD.ofF (LF.lst LA.nil))) (LA.cons (LO.ofD (LD.ofF (LF.lst LA.nil))) LA.nil))) rfl)
    (LSs.cons (LS.for (pt := (.nm 6)) PassesOwn.never rfl (LI.range1 rfl b_range (LA.cons (LO.ofD LD.int) LA.nil)) (pg_name (i := 6) sc.nd rfl (by first | exact .inl rfl | exact .inr rfl)) (LSs.one (LS.ite (LT.w (LW.or (LT.not (LT.val (LD.ofF (LF.cal c_law_deed_9eae hr hgd rfl (LA.cons (LO.s 1 (pv 1)) (LA.cons (LO.s 4 (pv 4)) (LA.cons (LO.s 5 (pv 5)) (LA.cons (LO.ofD (LD.var 3 (pv 3))) LA.nil)))))))) (LW.or1 (LT.not (LT.val (LD.ofF (LF.cal c_law_held_2b08 hr hgd rfl (LA.cons (LO.s 4 (pv 4)) (LA.cons (LO.s 5 (pv 5)) (LA.cons (LO.ofD (LD.var 3 (pv 3))) LA.nil)))))))))) (LSs.one (LS.ret (LF.ofD LD.bl))) LSs.nil)))
    (LSs.cons (LS.for (pt := (.nm 6)) PassesOwn.never rfl (LI.range1 rfl b_range (LA.cons (LO.ofD LD.int) LA.nil)) (pg_name (i := 6) sc.nd rfl (by first | exact .inl rfl | exact .inr rfl)) (LSs.one (LS.ite (LT.cmp (op_neU hr.units) ok_ne (LO.ofD (LD.bi (call_repr hr hgd hnd) ok_repr rfl b_repr (by decide +kernel) (LA.cons (LO.ofD (LD.ofF (LF.cal c_law_undo_81c7_e hr hgd rfl (LA.cons (LO.s 4 (pv 4)) LA.nil)))) LA.nil))) (LO.ofD (LD.bi (call_repr hr hgd hnd) ok_repr rfl b_repr (by decide +kernel) (LA.cons (LO.ofD (LD.ofF (LF.cal c_law_due_undo_8883 hr hgd rfl (LA.cons (LO.s 5 (pv 5)) LA.nil)))) LA.nil))) (nomark _)) (LSs.one (LS.ret (LF.ofD LD.bl))) LSs.nil)))
    (LSs.one (LS.ite (LT.w (LW.or (LT.cmp (op_neU hr.units) ok_ne (LO.ofD (LD.lenS c_m_Dial_len (hr.mono hkl) hgd rfl b_len (by decide +kernel) (pv 4))) (LO.ofD LD.int) (nomark _)) (LW.or1 (LT.cmp (op_neU hr.units) ok_ne (LO.ofD (LD.bi (call_repr hr hgd hnd) ok_repr rfl b_repr (by decide +kernel) (LA.cons (LO.ofD (LD.ofF (LF.cal c_law_undo_81c7_e hr hgd rfl (LA.cons (LO.s 4 (pv 4)) LA.nil)))) LA.nil))) (LO.ofD (LD.bi (call_repr hr hgd hnd) ok_repr rfl b_repr (by decide +kernel) (LA.cons (LO.ofD LD.str) LA.nil))) (nomark _))))) (LSs.one (LS.ret (LF.ofD LD.bl))) LSs.nil)))))))
    (LSs.one (LS.ret (LF.ofD LD.bl)))))) hsp
theorem all_mk {l : PySem.W.OpenLaw} {w : World} {K : PySem.W.Frag} {h : Heap} {mg : Str → Option Value} {fa f0 f1 f2 f3 f4 f5 f6 f7 f8 f9 f10 f11 f12 f13 f14 f15 f16 f17 f18 f19 f20 f21 f22 f23 f24 : Addr} (X : K.In h) (G : h.Ns mainGlobals mg) (hfa : mg "law" = some (.ref fa))
    {od0 an0 od1 an1 od2 an2 od3 an3 od4 an4 od5 an5 od6 an6 od7 an7 od8 an8 od9 an9 od10 an10 od11 an11 od12 an12 od13 an13 od14 an14 od15 an15 od16 an16 od17 an17 od18 an18 od19 an19 od20 an20 od21 an21 od22 an22 od23 an23 od24 an24 : Option Addr} {sl0 sl1 sl2 sl3 sl4 sl5 sl6 sl7 sl8 sl9 sl10 sl11 sl12 sl13 sl14 sl15 sl16 sl17 sl18 sl19 sl20 sl21 sl22 sl23 sl24 : Array (Option Value)} {oc0 kV0 dc0 pm0 cd0 ct0 oc1 kV1 dc1 pm1 cd1 ct1 oc2 kV2 dc2 pm2 cd2 ct2 oc3 kV3 dc3 pm3 cd3 ct3 oc4 kV4 dc4 pm4 cd4 ct4 oc5 kV5 dc5 pm5 cd5 ct5 oc6 kV6 dc6 pm6 cd6 ct6 oc7 kV7 dc7 pm7 cd7 ct7 oc8 kV8 dc8 pm8 cd8 ct8 oc9 kV9 dc9 pm9 cd9 ct9 oc10 kV10 dc10 pm10 cd10 ct10 oc11 kV11 dc11 pm11 cd11 ct11 oc12 kV12 dc12 pm12 cd12 ct12 oc13 kV13 dc13 pm13 cd13 ct13 oc14 kV14 dc14 pm14 cd14 ct14 oc15 kV15 dc15 pm15 cd15 ct15 oc16 kV16 dc16 pm16 cd16 ct16 oc17 kV17 dc17 pm17 cd17 ct17 oc18 kV18 dc18 pm18 cd18 ct18 oc19 kV19 dc19 pm19 cd19 ct19 oc20 kV20 dc20 pm20 cd20 ct20 oc21 kV21 dc21 pm21 cd21 ct21 oc22 kV22 dc22 pm22 cd22 ct22 oc23 kV23 dc23 pm23 cd23 ct23 oc24 kV24 dc24 pm24 cd24 ct24 : Value}
    {C_Dial : Addr} (aC_Dial : PySem.W.nsIn K mainGlobals "Dial" = some (some (.ref C_Dial))) (pg_Dial : PySem.W.plainGet K C_Dial Str.empty = true) (hd_Dial : PySem.W.hasDictIn K C_Dial = true) (po_Dial : PySem.W.plainOver K C_Dial = true) (sa_Dial : PySem.W.findIn K (.ref C_Dial) "__setattr__" = some (some (.builtin "object.__setattr__"))) (mk_Dial : PySem.W.makesIn K C_Dial = true) (kc_Dial : PySem.W.keepIn K (.ref C_Dial) = true)
    {C_NoHour : Addr} (aC_NoHour : PySem.W.nsIn K mainGlobals "NoHour" = some (some (.ref C_NoHour)))
    {C_HourError : Addr} (aC_HourError : PySem.W.nsIn K mainGlobals "HourError" = some (some (.ref C_HourError)))
    {C_Told : Addr} (aC_Told : PySem.W.nsIn K mainGlobals "Told" = some (some (.ref C_Told)))
    {C_Full : Addr} (aC_Full : PySem.W.nsIn K mainGlobals "Full" = some (some (.ref C_Full)))
    {C_NothingTold : Addr} (aC_NothingTold : PySem.W.nsIn K mainGlobals "NothingTold" = some (some (.ref C_NothingTold)))
    {C_NothingUndone : Addr} (aC_NothingUndone : PySem.W.nsIn K mainGlobals "NothingUndone" = some (some (.ref C_NothingUndone)))
    (eC_NoHour : PySem.W.subIn K (.ref C_NoHour) (.type "BaseException") = some true) (tC_NoHour : PySem.W.typeIn K (.ref C_NoHour) = some (.type "type")) (hC_NoHour : PySem.W.hasDictIn K C_NoHour = true)
    (eC_HourError : PySem.W.subIn K (.ref C_HourError) (.type "BaseException") = some true) (tC_HourError : PySem.W.typeIn K (.ref C_HourError) = some (.type "type")) (hC_HourError : PySem.W.hasDictIn K C_HourError = true)
    (eC_Told : PySem.W.subIn K (.ref C_Told) (.type "BaseException") = some true) (tC_Told : PySem.W.typeIn K (.ref C_Told) = some (.type "type")) (hC_Told : PySem.W.hasDictIn K C_Told = true)
    (eC_Full : PySem.W.subIn K (.ref C_Full) (.type "BaseException") = some true) (tC_Full : PySem.W.typeIn K (.ref C_Full) = some (.type "type")) (hC_Full : PySem.W.hasDictIn K C_Full = true)
    (eC_NothingTold : PySem.W.subIn K (.ref C_NothingTold) (.type "BaseException") = some true) (tC_NothingTold : PySem.W.typeIn K (.ref C_NothingTold) = some (.type "type")) (hC_NothingTold : PySem.W.hasDictIn K C_NothingTold = true)
    (eC_NothingUndone : PySem.W.subIn K (.ref C_NothingUndone) (.type "BaseException") = some true) (tC_NothingUndone : PySem.W.typeIn K (.ref C_NothingUndone) = some (.type "type")) (hC_NothingUndone : PySem.W.hasDictIn K C_NothingUndone = true)
    (kC_NoHour : PySem.W.keepIn K (.ref C_NoHour) = true)
    (kC_Told : PySem.W.keepIn K (.ref C_Told) = true)
    (kC_Full : PySem.W.keepIn K (.ref C_Full) = true)
    (kC_NothingTold : PySem.W.keepIn K (.ref C_NothingTold) = true)
    (kC_NothingUndone : PySem.W.keepIn K (.ref C_NothingUndone) = true)
    (ga_NoHour : PySem.W.findIn K (.ref C_NoHour) "__getattribute__" = some (some (.builtin "BaseException.__getattribute__"))) (gg_NoHour : PySem.W.findIn K (.ref C_NoHour) "__getattr__" = some none)
    (ga_Told : PySem.W.findIn K (.ref C_Told) "__getattribute__" = some (some (.builtin "BaseException.__getattribute__"))) (gg_Told : PySem.W.findIn K (.ref C_Told) "__getattr__" = some none)
    (ex_Full : PySem.W.excIn K C_Full [.type "ValueError", .type "Exception", .type "BaseException", .type "object"] "ValueError.__new__" = true)
    (ga_Full : PySem.W.findIn K (.ref C_Full) "__getattribute__" = some (some (.builtin "BaseException.__getattribute__"))) (gg_Full : PySem.W.findIn K (.ref C_Full) "__getattr__" = some none)
    (xa_Full : PySem.W.findIn K (.ref C_Full) "__class__" = some (some (.builtin "object.__class__"))) (xb_Full : PySem.W.specialIn K (.builtin "object.__class__") "__get__" = some (some (.builtin "getset_descriptor.__get__"))) (xc_Full : PySem.W.takesIn K (.builtin "object.__class__") = some true) (xm_Full : PySem.W.mroIn K C_Full (.type "object") = some true)
    (ex_NothingTold : PySem.W.excIn K C_NothingTold [.type "ValueError", .type "Exception", .type "BaseException", .type "object"] "ValueError.__new__" = true)
    (ga_NothingTold : PySem.W.findIn K (.ref C_NothingTold) "__getattribute__" = some (some (.builtin "BaseException.__getattribute__"))) (gg_NothingTold : PySem.W.findIn K (.ref C_NothingTold) "__getattr__" = some none)
    (xa_NothingTold : PySem.W.findIn K (.ref C_NothingTold) "__class__" = some (some (.builtin "object.__class__"))) (xb_NothingTold : PySem.W.specialIn K (.builtin "object.__class__") "__get__" = some (some (.builtin "getset_descriptor.__get__"))) (xc_NothingTold : PySem.W.takesIn K (.builtin "object.__class__") = some true) (xm_NothingTold : PySem.W.mroIn K C_NothingTold (.type "object") = some true)
    (ex_NothingUndone : PySem.W.excIn K C_NothingUndone [.type "ValueError", .type "Exception", .type "BaseException", .type "object"] "ValueError.__new__" = true)
    (ga_NothingUndone : PySem.W.findIn K (.ref C_NothingUndone) "__getattribute__" = some (some (.builtin "BaseException.__getattribute__"))) (gg_NothingUndone : PySem.W.findIn K (.ref C_NothingUndone) "__getattr__" = some none)
    (xa_NothingUndone : PySem.W.findIn K (.ref C_NothingUndone) "__class__" = some (some (.builtin "object.__class__"))) (xb_NothingUndone : PySem.W.specialIn K (.builtin "object.__class__") "__get__" = some (some (.builtin "getset_descriptor.__get__"))) (xc_NothingUndone : PySem.W.takesIn K (.builtin "object.__class__") = some true) (xm_NothingUndone : PySem.W.mroIn K C_NothingUndone (.type "object") = some true)
    (sg_HourError : PySem.W.specialIn K (.ref C_HourError) "__getattribute__" = some (some (.builtin "type.__getattribute__"))) (rd_HourError : PySem.W.readsIn K C_HourError (.type "type") = true) (vi_HourError : PySem.W.findCls K (.ref C_HourError) (.type "type") "__init__" = some (.val (.builtin "ValueError.__init__")))
    (nx_NoHour_value : PySem.W.findIn K (.ref C_NoHour) "value" = some none)
    (nx_Told_at : PySem.W.findIn K (.ref C_Told) "at" = some none)
    {nm_NoHour q_NoHour : Str} {N_NoHour : Addr} {bs_NoHour : List Value} {sn_NoHour : List Str} {su_NoHour : List Value} {ab_NoHour : Bool} {cl_NoHour : Option Bool} {dd_NoHour : Option Addr} {m0_NoHour m1_NoHour m2_NoHour m3_NoHour m5_NoHour : Option Value} {fx_NoHour : Addr} {odx_NoHour anx_NoHour : Option Addr} {slx_NoHour : Array (Option Value)} {ocx_NoHour kVx_NoHour dcx_NoHour pmx_NoHour cdx_NoHour ctx_NoHour : Value}
    (xL_NoHour : K.lookup C_NoHour = some (excClassObj nm_NoHour q_NoHour C_NoHour N_NoHour bs_NoHour [.ref C_HourError, .type "ValueError", .type "Exception", .type "BaseException", .type "object"] true sn_NoHour su_NoHour ab_NoHour cl_NoHour dd_NoHour m0_NoHour m1_NoHour m2_NoHour m3_NoHour m5_NoHour "ValueError.__new__")) (xs_NoHour : PySem.W.findIn K (.ref C_NoHour) "__setattr__" = some (some (.builtin "object.__setattr__"))) (xi_NoHour : PySem.W.findIn K (.ref C_NoHour) "__init__" = some (some (.ref fx_NoHour))) (xt_NoHour : PySem.W.typeIn K (.ref fx_NoHour) = some (.type "function"))
    (xl_NoHour : K.lookup fx_NoHour = some ⟨ocx_NoHour, odx_NoHour, .func (PySem.W.fnOf "__init__" "NoHour.__init__" (defArgs st_x_NoHour) (defBody st_x_NoHour) (defScope st_x_NoHour) .none kVx_NoHour dcx_NoHour pmx_NoHour anx_NoHour cdx_NoHour ctx_NoHour), slx_NoHour⟩) (xd_NoHour : PySem.W.codeIn K cdx_NoHour "NoHour.__init__" = true) (xk_NoHour : PySem.W.keepIn K (.ref fx_NoHour) = true)
    {nm_Told q_Told : Str} {N_Told : Addr} {bs_Told : List Value} {sn_Told : List Str} {su_Told : List Value} {ab_Told : Bool} {cl_Told : Option Bool} {dd_Told : Option Addr} {m0_Told m1_Told m2_Told m3_Told m5_Told : Option Value} {fx_Told : Addr} {odx_Told anx_Told : Option Addr} {slx_Told : Array (Option Value)} {ocx_Told kVx_Told dcx_Told pmx_Told cdx_Told ctx_Told : Value}
    (xL_Told : K.lookup C_Told = some (excClassObj nm_Told q_Told C_Told N_Told bs_Told [.ref C_HourError, .type "ValueError", .type "Exception", .type "BaseException", .type "object"] true sn_Told su_Told ab_Told cl_Told dd_Told m0_Told m1_Told m2_Told m3_Told m5_Told "ValueError.__new__")) (xs_Told : PySem.W.findIn K (.ref C_Told) "__setattr__" = some (some (.builtin "object.__setattr__"))) (xi_Told : PySem.W.findIn K (.ref C_Told) "__init__" = some (some (.ref fx_Told))) (xt_Told : PySem.W.typeIn K (.ref fx_Told) = some (.type "function"))
    (xl_Told : K.lookup fx_Told = some ⟨ocx_Told, odx_Told, .func (PySem.W.fnOf "__init__" "Told.__init__" (defArgs st_x_Told) (defBody st_x_Told) (defScope st_x_Told) .none kVx_Told dcx_Told pmx_Told anx_Told cdx_Told ctx_Told), slx_Told⟩) (xd_Told : PySem.W.codeIn K cdx_Told "Told.__init__" = true) (xk_Told : PySem.W.keepIn K (.ref fx_Told) = true)
    (su_Told_HourError : PySem.W.subIn K (.ref C_Told) (.ref C_HourError) = some true)
    (su_Full_HourError : PySem.W.subIn K (.ref C_Full) (.ref C_HourError) = some true)
    (su_NothingTold_HourError : PySem.W.subIn K (.ref C_NothingTold) (.ref C_HourError) = some true)
    (su_NothingUndone_HourError : PySem.W.subIn K (.ref C_NothingUndone) (.ref C_HourError) = some true)
    (su_NoHour_NoHour : PySem.W.subIn K (.ref C_NoHour) (.ref C_NoHour) = some true)
    (su_Told_NoHour : PySem.W.subIn K (.ref C_Told) (.ref C_NoHour) = some false)
    (su_Full_NoHour : PySem.W.subIn K (.ref C_Full) (.ref C_NoHour) = some false)
    (su_NothingTold_NoHour : PySem.W.subIn K (.ref C_NothingTold) (.ref C_NoHour) = some false)
    (su_NothingUndone_NoHour : PySem.W.subIn K (.ref C_NothingUndone) (.ref C_NoHour) = some false)
    (su_Full_Full : PySem.W.subIn K (.ref C_Full) (.ref C_Full) = some true)
    (su_NothingTold_Full : PySem.W.subIn K (.ref C_NothingTold) (.ref C_Full) = some false)
    (su_NothingUndone_Full : PySem.W.subIn K (.ref C_NothingUndone) (.ref C_Full) = some false)
    (ki_Full_ValueError : PySem.W.kitOne K (.ref C_Full) (.type "ValueError") = some true)
    (ki_Full_HourError : PySem.W.kitOne K (.ref C_Full) (.ref C_HourError) = some true)
    (su_Told_Told : PySem.W.subIn K (.ref C_Told) (.ref C_Told) = some true)
    (su_Full_Told : PySem.W.subIn K (.ref C_Full) (.ref C_Told) = some false)
    (su_NothingTold_Told : PySem.W.subIn K (.ref C_NothingTold) (.ref C_Told) = some false)
    (su_NothingUndone_Told : PySem.W.subIn K (.ref C_NothingUndone) (.ref C_Told) = some false)
    (su_NoHour_HourError : PySem.W.subIn K (.ref C_NoHour) (.ref C_HourError) = some true)
    (su_NoHour_NothingTold : PySem.W.subIn K (.ref C_NoHour) (.ref C_NothingTold) = some false)
    (su_Told_NothingTold : PySem.W.subIn K (.ref C_Told) (.ref C_NothingTold) = some false)
    (su_Full_NothingTold : PySem.W.subIn K (.ref C_Full) (.ref C_NothingTold) = some false)
    (su_NothingTold_NothingTold : PySem.W.subIn K (.ref C_NothingTold) (.ref C_NothingTold) = some true)
    (su_NothingUndone_NothingTold : PySem.W.subIn K (.ref C_NothingUndone) (.ref C_NothingTold) = some false)
    (ki_NothingTold_ValueError : PySem.W.kitOne K (.ref C_NothingTold) (.type "ValueError") = some true)
    (ki_NothingTold_HourError : PySem.W.kitOne K (.ref C_NothingTold) (.ref C_HourError) = some true)
    (su_NoHour_NothingUndone : PySem.W.subIn K (.ref C_NoHour) (.ref C_NothingUndone) = some false)
    (su_Told_NothingUndone : PySem.W.subIn K (.ref C_Told) (.ref C_NothingUndone) = some false)
    (su_Full_NothingUndone : PySem.W.subIn K (.ref C_Full) (.ref C_NothingUndone) = some false)
    (su_NothingTold_NothingUndone : PySem.W.subIn K (.ref C_NothingTold) (.ref C_NothingUndone) = some false)
    (su_NothingUndone_NothingUndone : PySem.W.subIn K (.ref C_NothingUndone) (.ref C_NothingUndone) = some true)
    (ki_NothingUndone_ValueError : PySem.W.kitOne K (.ref C_NothingUndone) (.type "ValueError") = some true)
    (ki_NothingUndone_HourError : PySem.W.kitOne K (.ref C_NothingUndone) (.ref C_HourError) = some true)
    (ti_Dial_NoneType : PySem.W.kitOne K (.type "NoneType") (.ref C_Dial) = some false)
    (ti_Dial_bool : PySem.W.kitOne K (.type "bool") (.ref C_Dial) = some false)
    (ti_Dial_int : PySem.W.kitOne K (.type "int") (.ref C_Dial) = some false)
    (ti_Dial_str : PySem.W.kitOne K (.type "str") (.ref C_Dial) = some false)
    (ti_Dial_list : PySem.W.kitOne K (.type "list") (.ref C_Dial) = some false)
    (ti_Dial_tuple : PySem.W.kitOne K (.type "tuple") (.ref C_Dial) = some false)
    (ca_Dial : PySem.W.findIn K (.ref C_Dial) "__class__" = some (some (.builtin "object.__class__"))) (cb_Dial : PySem.W.specialIn K (.builtin "object.__class__") "__get__" = some (some (.builtin "getset_descriptor.__get__"))) (cc_Dial : PySem.W.takesIn K (.builtin "object.__class__") = some true)
    (no_Dial_bool : PySem.W.kitOne K (.ref C_Dial) (.type "bool") = some false)
    (no_Dial_int : PySem.W.kitOne K (.ref C_Dial) (.type "int") = some false)
    (mo_Dial : PySem.W.mroIn K C_Dial (.type "object") = some true)
    (nf_Dial_clock : PySem.W.findIn K (.ref C_Dial) "clock" = some none)
    (nf_Dial_standing : PySem.W.findIn K (.ref C_Dial) "standing" = some none)
    (nf_Dial_undone : PySem.W.findIn K (.ref C_Dial) "undone" = some none)
    (a0 : PySem.W.nsIn K mainGlobals "_law_deck" = some (some (.ref f0))) (l0 : K.lookup f0 = some ⟨oc0, od0, .func (PySem.W.fnOf "_law_deck" "_law_deck" (defArgs st_law_deck_91e6) (defBody st_law_deck_91e6) (defScope st_law_deck_91e6) .none kV0 dc0 pm0 an0 cd0 ct0), sl0⟩) (c0 : PySem.W.codeIn K cd0 "_law_deck" = true) (k0 : PySem.W.keepIn K (.ref f0) = true)
    (a1 : PySem.W.nsIn K mainGlobals "_law_draw" = some (some (.ref f1))) (l1 : K.lookup f1 = some ⟨oc1, od1, .func (PySem.W.fnOf "_law_draw" "_law_draw" (defArgs st_law_draw_a51a) (defBody st_law_draw_a51a) (defScope st_law_draw_a51a) .none kV1 dc1 pm1 an1 cd1 ct1), sl1⟩) (c1 : PySem.W.codeIn K cd1 "_law_draw" = true) (k1 : PySem.W.keepIn K (.ref f1) = true)
    (a2 : PySem.W.nsIn K mainGlobals "_law_one" = some (some (.ref f2))) (l2 : K.lookup f2 = some ⟨oc2, od2, .func (PySem.W.fnOf "_law_one" "_law_one" (defArgs st_law_one_90da) (defBody st_law_one_90da) (defScope st_law_one_90da) .none kV2 dc2 pm2 an2 cd2 ct2), sl2⟩) (c2 : PySem.W.codeIn K cd2 "_law_one" = true) (k2 : PySem.W.keepIn K (.ref f2) = true)
    (a3 : PySem.W.nsIn K mainGlobals "_law_is_hour" = some (some (.ref f3))) (l3 : K.lookup f3 = some ⟨oc3, od3, .func (PySem.W.fnOf "_law_is_hour" "_law_is_hour" (defArgs st_law_is_hour_b9ab) (defBody st_law_is_hour_b9ab) (defScope st_law_is_hour_b9ab) .none kV3 dc3 pm3 an3 cd3 ct3), sl3⟩) (c3 : PySem.W.codeIn K cd3 "_law_is_hour" = true) (k3 : PySem.W.keepIn K (.ref f3) = true)
    (a4 : PySem.W.nsIn K mainGlobals "_law_due_get" = some (some (.ref f4))) (l4 : K.lookup f4 = some ⟨oc4, od4, .func (PySem.W.fnOf "_law_due_get" "_law_due_get" (defArgs st_law_due_get_5072) (defBody st_law_due_get_5072) (defScope st_law_due_get_5072) .none kV4 dc4 pm4 an4 cd4 ct4), sl4⟩) (c4 : PySem.W.codeIn K cd4 "_law_due_get" = true) (k4 : PySem.W.keepIn K (.ref f4) = true)
    (a5 : PySem.W.nsIn K mainGlobals "is_integer" = some (some (.ref f5))) (l5 : K.lookup f5 = some ⟨oc5, od5, .func (PySem.W.fnOf "is_integer" "is_integer" (defArgs st_is_integer_D) (defBody st_is_integer_D) (defScope st_is_integer_D) .none kV5 dc5 pm5 an5 cd5 ct5), sl5⟩) (c5 : PySem.W.codeIn K cd5 "is_integer" = true) (k5 : PySem.W.keepIn K (.ref f5) = true)
    (a6 : PySem.W.findIn K (.ref C_Dial) "require" = some (some (.ref f6))) (i6 : PySem.W.isFn K (.ref f6) = true) (l6 : K.lookup f6 = some ⟨oc6, od6, .func (PySem.W.fnOf "require" "Dial.require" (defArgs st_m_Dial_require_e) (defBody st_m_Dial_require_e) (defScope st_m_Dial_require_e) .none kV6 dc6 pm6 an6 cd6 ct6), sl6⟩) (c6 : PySem.W.codeIn K cd6 "Dial.require" = true) (k6 : PySem.W.keepIn K (.ref f6) = true)
    (a7 : PySem.W.findIn K (.ref C_Dial) "__getitem__" = some (some (.ref f7))) (i7 : PySem.W.isFn K (.ref f7) = true) (l7 : K.lookup f7 = some ⟨oc7, od7, .func (PySem.W.fnOf "__getitem__" "Dial.__getitem__" (defArgs st_m_Dial_getitem_e) (defBody st_m_Dial_getitem_e) (defScope st_m_Dial_getitem_e) .none kV7 dc7 pm7 an7 cd7 ct7), sl7⟩) (c7 : PySem.W.codeIn K cd7 "Dial.__getitem__" = true) (k7 : PySem.W.keepIn K (.ref f7) = true)
    (g7 : PySem.W.fnIn K f7 = true)
    (a8 : PySem.W.nsIn K mainGlobals "_law_get" = some (some (.ref f8))) (l8 : K.lookup f8 = some ⟨oc8, od8, .func (PySem.W.fnOf "_law_get" "_law_get" (defArgs st_law_get_4e47_e) (defBody st_law_get_4e47_e) (defScope st_law_get_4e47_e) .none kV8 dc8 pm8 an8 cd8 ct8), sl8⟩) (c8 : PySem.W.codeIn K cd8 "_law_get" = true) (k8 : PySem.W.keepIn K (.ref f8) = true)
    (a9 : PySem.W.findIn K (.ref C_Dial) "__len__" = some (some (.ref f9))) (i9 : PySem.W.isFn K (.ref f9) = true) (l9 : K.lookup f9 = some ⟨oc9, od9, .func (PySem.W.fnOf "__len__" "Dial.__len__" (defArgs st_m_Dial_len) (defBody st_m_Dial_len) (defScope st_m_Dial_len) .none kV9 dc9 pm9 an9 cd9 ct9), sl9⟩) (c9 : PySem.W.codeIn K cd9 "Dial.__len__" = true) (k9 : PySem.W.keepIn K (.ref f9) = true)
    (a10 : PySem.W.findIn K (.ref C_Dial) "told" = some (some (.ref f10))) (i10 : PySem.W.isFn K (.ref f10) = true) (l10 : K.lookup f10 = some ⟨oc10, od10, .func (PySem.W.fnOf "told" "Dial.told" (defArgs st_m_Dial_told) (defBody st_m_Dial_told) (defScope st_m_Dial_told) .none kV10 dc10 pm10 an10 cd10 ct10), sl10⟩) (c10 : PySem.W.codeIn K cd10 "Dial.told" = true) (k10 : PySem.W.keepIn K (.ref f10) = true)
    (a11 : PySem.W.nsIn K mainGlobals "_law_held" = some (some (.ref f11))) (l11 : K.lookup f11 = some ⟨oc11, od11, .func (PySem.W.fnOf "_law_held" "_law_held" (defArgs st_law_held_2b08) (defBody st_law_held_2b08) (defScope st_law_held_2b08) .none kV11 dc11 pm11 an11 cd11 ct11), sl11⟩) (c11 : PySem.W.codeIn K cd11 "_law_held" = true) (k11 : PySem.W.keepIn K (.ref f11) = true)
    (a12 : PySem.W.nsIn K mainGlobals "_law_odd" = some (some (.ref f12))) (l12 : K.lookup f12 = some ⟨oc12, od12, .func (PySem.W.fnOf "_law_odd" "_law_odd" (defArgs st_law_odd_ed94) (defBody st_law_odd_ed94) (defScope st_law_odd_ed94) .none kV12 dc12 pm12 an12 cd12 ct12), sl12⟩) (c12 : PySem.W.codeIn K cd12 "_law_odd" = true) (k12 : PySem.W.keepIn K (.ref f12) = true)
    (a13 : PySem.W.findIn K (.ref C_Dial) "__setitem__" = some (some (.ref f13))) (i13 : PySem.W.isFn K (.ref f13) = true) (l13 : K.lookup f13 = some ⟨oc13, od13, .func (PySem.W.fnOf "__setitem__" "Dial.__setitem__" (defArgs st_m_Dial_setitem_e) (defBody st_m_Dial_setitem_e) (defScope st_m_Dial_setitem_e) .none kV13 dc13 pm13 an13 cd13 ct13), sl13⟩) (c13 : PySem.W.codeIn K cd13 "Dial.__setitem__" = true) (k13 : PySem.W.keepIn K (.ref f13) = true)
    (sq13 : PySem.W.noSeq K C_Dial = true)
    (a14 : PySem.W.nsIn K mainGlobals "_law_set" = some (some (.ref f14))) (l14 : K.lookup f14 = some ⟨oc14, od14, .func (PySem.W.fnOf "_law_set" "_law_set" (defArgs st_law_set_a42b_e) (defBody st_law_set_a42b_e) (defScope st_law_set_a42b_e) .none kV14 dc14 pm14 an14 cd14 ct14), sl14⟩) (c14 : PySem.W.codeIn K cd14 "_law_set" = true) (k14 : PySem.W.keepIn K (.ref f14) = true)
    (a15 : PySem.W.nsIn K mainGlobals "_law_due" = some (some (.ref f15))) (l15 : K.lookup f15 = some ⟨oc15, od15, .func (PySem.W.fnOf "_law_due" "_law_due" (defArgs st_law_due_7c00) (defBody st_law_due_7c00) (defScope st_law_due_7c00) .none kV15 dc15 pm15 an15 cd15 ct15), sl15⟩) (c15 : PySem.W.codeIn K cd15 "_law_due" = true) (k15 : PySem.W.keepIn K (.ref f15) = true)
    (a16 : PySem.W.findIn K (.ref C_Dial) "undo" = some (some (.ref f16))) (i16 : PySem.W.isFn K (.ref f16) = true) (l16 : K.lookup f16 = some ⟨oc16, od16, .func (PySem.W.fnOf "undo" "Dial.undo" (defArgs st_m_Dial_undo_e) (defBody st_m_Dial_undo_e) (defScope st_m_Dial_undo_e) .none kV16 dc16 pm16 an16 cd16 ct16), sl16⟩) (c16 : PySem.W.codeIn K cd16 "Dial.undo" = true) (k16 : PySem.W.keepIn K (.ref f16) = true)
    (a17 : PySem.W.nsIn K mainGlobals "_law_undo" = some (some (.ref f17))) (l17 : K.lookup f17 = some ⟨oc17, od17, .func (PySem.W.fnOf "_law_undo" "_law_undo" (defArgs st_law_undo_81c7_e) (defBody st_law_undo_81c7_e) (defScope st_law_undo_81c7_e) .none kV17 dc17 pm17 an17 cd17 ct17), sl17⟩) (c17 : PySem.W.codeIn K cd17 "_law_undo" = true) (k17 : PySem.W.keepIn K (.ref f17) = true)
    (a18 : PySem.W.nsIn K mainGlobals "_law_due_undo" = some (some (.ref f18))) (l18 : K.lookup f18 = some ⟨oc18, od18, .func (PySem.W.fnOf "_law_due_undo" "_law_due_undo" (defArgs st_law_due_undo_8883) (defBody st_law_due_undo_8883) (defScope st_law_due_undo_8883) .none kV18 dc18 pm18 an18 cd18 ct18), sl18⟩) (c18 : PySem.W.codeIn K cd18 "_law_due_undo" = true) (k18 : PySem.W.keepIn K (.ref f18) = true)
    (a19 : PySem.W.findIn K (.ref C_Dial) "redo" = some (some (.ref f19))) (i19 : PySem.W.isFn K (.ref f19) = true) (l19 : K.lookup f19 = some ⟨oc19, od19, .func (PySem.W.fnOf "redo" "Dial.redo" (defArgs st_m_Dial_redo_e) (defBody st_m_Dial_redo_e) (defScope st_m_Dial_redo_e) .none kV19 dc19 pm19 an19 cd19 ct19), sl19⟩) (c19 : PySem.W.codeIn K cd19 "Dial.redo" = true) (k19 : PySem.W.keepIn K (.ref f19) = true)
    (a20 : PySem.W.nsIn K mainGlobals "_law_redo" = some (some (.ref f20))) (l20 : K.lookup f20 = some ⟨oc20, od20, .func (PySem.W.fnOf "_law_redo" "_law_redo" (defArgs st_law_redo_d6e1_e) (defBody st_law_redo_d6e1_e) (defScope st_law_redo_d6e1_e) .none kV20 dc20 pm20 an20 cd20 ct20), sl20⟩) (c20 : PySem.W.codeIn K cd20 "_law_redo" = true) (k20 : PySem.W.keepIn K (.ref f20) = true)
    (a21 : PySem.W.nsIn K mainGlobals "_law_due_redo" = some (some (.ref f21))) (l21 : K.lookup f21 = some ⟨oc21, od21, .func (PySem.W.fnOf "_law_due_redo" "_law_due_redo" (defArgs st_law_due_redo_e502) (defBody st_law_due_redo_e502) (defScope st_law_due_redo_e502) .none kV21 dc21 pm21 an21 cd21 ct21), sl21⟩) (c21 : PySem.W.codeIn K cd21 "_law_due_redo" = true) (k21 : PySem.W.keepIn K (.ref f21) = true)
    (a22 : PySem.W.nsIn K mainGlobals "_law_deed" = some (some (.ref f22))) (l22 : K.lookup f22 = some ⟨oc22, od22, .func (PySem.W.fnOf "_law_deed" "_law_deed" (defArgs st_law_deed_9eae) (defBody st_law_deed_9eae) (defScope st_law_deed_9eae) .none kV22 dc22 pm22 an22 cd22 ct22), sl22⟩) (c22 : PySem.W.codeIn K cd22 "_law_deed" = true) (k22 : PySem.W.keepIn K (.ref f22) = true)
    (a23 : PySem.W.findIn K (.ref C_Dial) "__init__" = some (some (.ref f23))) (i23 : PySem.W.isFn K (.ref f23) = true) (l23 : K.lookup f23 = some ⟨oc23, od23, .func (PySem.W.fnOf "__init__" "Dial.__init__" (defArgs st_m_Dial_init) (defBody st_m_Dial_init) (defScope st_m_Dial_init) .none kV23 dc23 pm23 an23 cd23 ct23), sl23⟩) (c23 : PySem.W.codeIn K cd23 "Dial.__init__" = true) (k23 : PySem.W.keepIn K (.ref f23) = true)
    (a24 : PySem.W.nsIn K mainGlobals "law" = some (some (.ref f24))) (l24 : K.lookup f24 = some ⟨oc24, od24, .func (PySem.W.fnOf "law" "law" (defArgs st_law) (defBody st_law) (defScope st_law) .none kV24 dc24 pm24 an24 cd24 ct24), sl24⟩) (c24 : PySem.W.codeIn K cd24 "law" = true) (k24 : PySem.W.keepIn K (.ref f24) = true)
    (z_list : PySem.W.nsIn K mainGlobals "list" = some none)
    (z_int : PySem.W.nsIn K mainGlobals "int" = some none)
    (z_len : PySem.W.nsIn K mainGlobals "len" = some none)
    (z_abs : PySem.W.nsIn K mainGlobals "abs" = some none)
    (z_isinstance : PySem.W.nsIn K mainGlobals "isinstance" = some none)
    (z_bool : PySem.W.nsIn K mainGlobals "bool" = some none)
    (z_tuple : PySem.W.nsIn K mainGlobals "tuple" = some none)
    (z_sorted : PySem.W.nsIn K mainGlobals "sorted" = some none)
    (z_range : PySem.W.nsIn K mainGlobals "range" = some none)
    (z_repr : PySem.W.nsIn K mainGlobals "repr" = some none)
    (z_ValueError : PySem.W.nsIn K mainGlobals "ValueError" = some none)
    {t_MOST_TOLD : Tok} (m_MOST_TOLD : PySem.W.nsIn K mainGlobals "MOST_TOLD" = some (some (.int (8) t_MOST_TOLD)))
    : ∃ fd : FuncData, (∀ (s : Shared) (v : Value), BindsTo s fd ⟨[v], []⟩ [("script", v)]) ∧ ∀ base : Heap, K.In base → base.Ns mainGlobals mg → base.NoDigits → FnG l.prog w K mg base CX0 9 fa fd ["script"] (liftC K lawS) := by
  have e := hfa.symm.trans (PySem.W.mg_of X G a24)
  cases e
  have k_Dial : Cls K C_Dial := ⟨pg_Dial, hd_Dial, po_Dial, sa_Dial⟩
  have m_Dial := PySem.W.mg_of X G aC_Dial
  have m_NoHour := PySem.W.mg_of X G aC_NoHour
  have m_HourError := PySem.W.mg_of X G aC_HourError
  have m_Told := PySem.W.mg_of X G aC_Told
  have m_Full := PySem.W.mg_of X G aC_Full
  have m_NothingTold := PySem.W.mg_of X G aC_NothingTold
  have m_NothingUndone := PySem.W.mg_of X G aC_NothingUndone
  have he_HourError : HeC K C_HourError := ⟨sg_HourError, rd_HourError, vi_HourError⟩
  have ox_NoHour : OexC K C_NoHour := ⟨⟨_, _, _, _, _, _, _, _, _, _, _, _, _, _, _, xL_NoHour, by first | rfl | with_unfolding_all rfl | simp [PySem.HandSPX.refsVE]⟩, xs_NoHour, eC_NoHour, tC_NoHour, kC_NoHour⟩
  have ox_Told : OexC K C_Told := ⟨⟨_, _, _, _, _, _, _, _, _, _, _, _, _, _, _, xL_Told, by first | rfl | with_unfolding_all rfl | simp [PySem.HandSPX.refsVE]⟩, xs_Told, eC_Told, tC_Told, kC_Told⟩
  have em_Told_HourError := PySem.W.exm_ref eC_HourError hC_HourError tC_HourError su_Told_HourError
  have em_Full_HourError := PySem.W.exm_ref eC_HourError hC_HourError tC_HourError su_Full_HourError
  have em_NothingTold_HourError := PySem.W.exm_ref eC_HourError hC_HourError tC_HourError su_NothingTold_HourError
  have em_NothingUndone_HourError := PySem.W.exm_ref eC_HourError hC_HourError tC_HourError su_NothingUndone_HourError
  have em_NoHour_NoHour := PySem.W.exm_ref eC_NoHour hC_NoHour tC_NoHour su_NoHour_NoHour
  have em_Told_NoHour := PySem.W.exm_ref eC_NoHour hC_NoHour tC_NoHour su_Told_NoHour
  have em_Full_NoHour := PySem.W.exm_ref eC_NoHour hC_NoHour tC_NoHour su_Full_NoHour
  have em_NothingTold_NoHour := PySem.W.exm_ref eC_NoHour hC_NoHour tC_NoHour su_NothingTold_NoHour
  have em_NothingUndone_NoHour := PySem.W.exm_ref eC_NoHour hC_NoHour tC_NoHour su_NothingUndone_NoHour
  have xf_NoHour : XfC K C_NoHour := ⟨ga_NoHour, gg_NoHour, eC_NoHour, hC_NoHour⟩
  have z_Full : Ex0 K C_Full := ⟨ex_Full, kC_Full, eC_Full, tC_Full⟩
  have em_Full_Full := PySem.W.exm_ref eC_Full hC_Full tC_Full su_Full_Full
  have em_NothingTold_Full := PySem.W.exm_ref eC_Full hC_Full tC_Full su_NothingTold_Full
  have em_NothingUndone_Full := PySem.W.exm_ref eC_Full hC_Full tC_Full su_NothingUndone_Full
  have xe_Full : ExcC K C_Full := ⟨ga_Full, gg_Full, eC_Full, hC_Full, xa_Full, xb_Full, xc_Full, xm_Full⟩
  have em_Told_Told := PySem.W.exm_ref eC_Told hC_Told tC_Told su_Told_Told
  have em_Full_Told := PySem.W.exm_ref eC_Told hC_Told tC_Told su_Full_Told
  have em_NothingTold_Told := PySem.W.exm_ref eC_Told hC_Told tC_Told su_NothingTold_Told
  have em_NothingUndone_Told := PySem.W.exm_ref eC_Told hC_Told tC_Told su_NothingUndone_Told
  have xf_Told : XfC K C_Told := ⟨ga_Told, gg_Told, eC_Told, hC_Told⟩
  have z_NothingTold : Ex0 K C_NothingTold := ⟨ex_NothingTold, kC_NothingTold, eC_NothingTold, tC_NothingTold⟩
  have em_NoHour_HourError := PySem.W.exm_ref eC_HourError hC_HourError tC_HourError su_NoHour_HourError
  have em_NoHour_NothingTold := PySem.W.exm_ref eC_NothingTold hC_NothingTold tC_NothingTold su_NoHour_NothingTold
  have em_Told_NothingTold := PySem.W.exm_ref eC_NothingTold hC_NothingTold tC_NothingTold su_Told_NothingTold
  have em_Full_NothingTold := PySem.W.exm_ref eC_NothingTold hC_NothingTold tC_NothingTold su_Full_NothingTold
  have em_NothingTold_NothingTold := PySem.W.exm_ref eC_NothingTold hC_NothingTold tC_NothingTold su_NothingTold_NothingTold
  have em_NothingUndone_NothingTold := PySem.W.exm_ref eC_NothingTold hC_NothingTold tC_NothingTold su_NothingUndone_NothingTold
  have xe_NothingTold : ExcC K C_NothingTold := ⟨ga_NothingTold, gg_NothingTold, eC_NothingTold, hC_NothingTold, xa_NothingTold, xb_NothingTold, xc_NothingTold, xm_NothingTold⟩
  have z_NothingUndone : Ex0 K C_NothingUndone := ⟨ex_NothingUndone, kC_NothingUndone, eC_NothingUndone, tC_NothingUndone⟩
  have em_NoHour_NothingUndone := PySem.W.exm_ref eC_NothingUndone hC_NothingUndone tC_NothingUndone su_NoHour_NothingUndone
  have em_Told_NothingUndone := PySem.W.exm_ref eC_NothingUndone hC_NothingUndone tC_NothingUndone su_Told_NothingUndone
  have em_Full_NothingUndone := PySem.W.exm_ref eC_NothingUndone hC_NothingUndone tC_NothingUndone su_Full_NothingUndone
  have em_NothingTold_NothingUndone := PySem.W.exm_ref eC_NothingUndone hC_NothingUndone tC_NothingUndone su_NothingTold_NothingUndone
  have em_NothingUndone_NothingUndone := PySem.W.exm_ref eC_NothingUndone hC_NothingUndone tC_NothingUndone su_NothingUndone_NothingUndone
  have xe_NothingUndone : ExcC K C_NothingUndone := ⟨ga_NothingUndone, gg_NothingUndone, eC_NothingUndone, hC_NothingUndone, xa_NothingUndone, xb_NothingUndone, xc_NothingUndone, xm_NothingUndone⟩
  have ic_Dial : IsC K C_Dial := isC_mk ti_Dial_NoneType ti_Dial_bool ti_Dial_int ti_Dial_str ti_Dial_list ti_Dial_tuple ca_Dial cb_Dial cc_Dial mo_Dial
  have nc_Dial_bool : NotC K C_Dial "bool" := ⟨no_Dial_bool⟩
  have nc_Dial_int : NotC K C_Dial "int" := ⟨no_Dial_int⟩
  have n_Dial_clock : NoAttr K C_Dial "clock" := nf_Dial_clock
  have n_Dial_standing : NoAttr K C_Dial "standing" := nf_Dial_standing
  have n_Dial_undone : NoAttr K C_Dial "undone" := nf_Dial_undone
  have F_law_deck_91e6 := fun_mk (st := st_law_deck_91e6) l0 c0 k0
  have D_law_deck_91e6 : Dn K mg "_law_deck" st_law_deck_91e6 ["script"] := ⟨⟨_, _, F_law_deck_91e6, PySem.W.mg_of X G a0, F_law_deck_91e6.binds (ps := ["script"]) fun _ _ _ _ _ _ us hl => match us, hl with | [_], _ => rfl⟩⟩
  have F_law_draw_a51a := fun_mk (st := st_law_draw_a51a) l1 c1 k1
  have D_law_draw_a51a : Dn K mg "_law_draw" st_law_draw_a51a ["deck", "many"] := ⟨⟨_, _, F_law_draw_a51a, PySem.W.mg_of X G a1, F_law_draw_a51a.binds (ps := ["deck", "many"]) fun _ _ _ _ _ _ us hl => match us, hl with | [_, _], _ => rfl⟩⟩
  have F_law_one_90da := fun_mk (st := st_law_one_90da) l2 c2 k2
  have D_law_one_90da : Dn K mg "_law_one" st_law_one_90da ["deck", "items"] := ⟨⟨_, _, F_law_one_90da, PySem.W.mg_of X G a2, F_law_one_90da.binds (ps := ["deck", "items"]) fun _ _ _ _ _ _ us hl => match us, hl with | [_, _], _ => rfl⟩⟩
  have F_law_is_hour_b9ab := fun_mk (st := st_law_is_hour_b9ab) l3 c3 k3
  have D_law_is_hour_b9ab : Dn K mg "_law_is_hour" st_law_is_hour_b9ab ["value", "clock"] := ⟨⟨_, _, F_law_is_hour_b9ab, PySem.W.mg_of X G a3, F_law_is_hour_b9ab.binds (ps := ["value", "clock"]) fun _ _ _ _ _ _ us hl => match us, hl with | [_, _], _ => rfl⟩⟩
  have F_law_due_get_5072 := fun_mk (st := st_law_due_get_5072) l4 c4 k4
  have D_law_due_get_5072 : Dn K mg "_law_due_get" st_law_due_get_5072 ["state", "clock", "at"] := ⟨⟨_, _, F_law_due_get_5072, PySem.W.mg_of X G a4, F_law_due_get_5072.binds (ps := ["state", "clock", "at"]) fun _ _ _ _ _ _ us hl => match us, hl with | [_, _, _], _ => rfl⟩⟩
  have F_is_integer_D := fun_mk (st := st_is_integer_D) l5 c5 k5
  have D_is_integer_D : Dn K mg "is_integer" st_is_integer_D ["value"] := ⟨⟨_, _, F_is_integer_D, PySem.W.mg_of X G a5, F_is_integer_D.binds (ps := ["value"]) fun _ _ _ _ _ _ us hl => match us, hl with | [_], _ => rfl⟩⟩
  have F_m_Dial_require_e := fun_mk (st := st_m_Dial_require_e) l6 c6 k6
  have D_m_Dial_require_e : Dm K (Meth K C_Dial "require") "require" "Dial.require" st_m_Dial_require_e ["self", "value"] := ⟨⟨_, _, funX_of F_m_Dial_require_e, ⟨a6, i6, k6⟩, F_m_Dial_require_e.binds (ps := ["self", "value"]) fun _ _ _ _ _ _ us hl => match us, hl with | [_, _], _ => rfl⟩⟩
  have F_m_Dial_getitem_e := fun_mk (st := st_m_Dial_getitem_e) l7 c7 k7
  have D_m_Dial_getitem_e : Dm K (GetC K C_Dial) "__getitem__" "Dial.__getitem__" st_m_Dial_getitem_e ["self", "at"] := ⟨⟨_, _, funX_of F_m_Dial_getitem_e, ⟨a7, g7, i7⟩, F_m_Dial_getitem_e.binds (ps := ["self", "at"]) fun _ _ _ _ _ _ us hl => match us, hl with | [_, _], _ => rfl⟩⟩
  have F_law_get_4e47_e := fun_mk (st := st_law_get_4e47_e) l8 c8 k8
  have D_law_get_4e47_e : Dn K mg "_law_get" st_law_get_4e47_e ["dial", "at"] := ⟨⟨_, _, F_law_get_4e47_e, PySem.W.mg_of X G a8, F_law_get_4e47_e.binds (ps := ["dial", "at"]) fun _ _ _ _ _ _ us hl => match us, hl with | [_, _], _ => rfl⟩⟩
  have F_m_Dial_len := fun_mk (st := st_m_Dial_len) l9 c9 k9
  have D_m_Dial_len : Dm K (LenC K C_Dial) "__len__" "Dial.__len__" st_m_Dial_len ["self"] := ⟨⟨_, _, funX_of F_m_Dial_len, ⟨a9, i9⟩, F_m_Dial_len.binds (ps := ["self"]) fun _ _ _ _ _ _ us hl => match us, hl with | [_], _ => rfl⟩⟩
  have F_m_Dial_told := fun_mk (st := st_m_Dial_told) l10 c10 k10
  have D_m_Dial_told : Dm K (Meth K C_Dial "told") "told" "Dial.told" st_m_Dial_told ["self"] := ⟨⟨_, _, funX_of F_m_Dial_told, ⟨a10, i10, k10⟩, F_m_Dial_told.binds (ps := ["self"]) fun _ _ _ _ _ _ us hl => match us, hl with | [_], _ => rfl⟩⟩
  have F_law_held_2b08 := fun_mk (st := st_law_held_2b08) l11 c11 k11
  have D_law_held_2b08 : Dn K mg "_law_held" st_law_held_2b08 ["dial", "state", "clock"] := ⟨⟨_, _, F_law_held_2b08, PySem.W.mg_of X G a11, F_law_held_2b08.binds (ps := ["dial", "state", "clock"]) fun _ _ _ _ _ _ us hl => match us, hl with | [_, _, _], _ => rfl⟩⟩
  have F_law_odd_ed94 := fun_mk (st := st_law_odd_ed94) l12 c12 k12
  have D_law_odd_ed94 : Dn K mg "_law_odd" st_law_odd_ed94 ["deck", "clock"] := ⟨⟨_, _, F_law_odd_ed94, PySem.W.mg_of X G a12, F_law_odd_ed94.binds (ps := ["deck", "clock"]) fun _ _ _ _ _ _ us hl => match us, hl with | [_, _], _ => rfl⟩⟩
  have F_m_Dial_setitem_e := fun_mk (st := st_m_Dial_setitem_e) l13 c13 k13
  have D_m_Dial_setitem_e : Dm K (SetC K C_Dial) "__setitem__" "Dial.__setitem__" st_m_Dial_setitem_e ["self", "at", "hour"] := ⟨⟨_, _, funX_of F_m_Dial_setitem_e, ⟨a13, sq13, i13⟩, F_m_Dial_setitem_e.binds (ps := ["self", "at", "hour"]) fun _ _ _ _ _ _ us hl => match us, hl with | [_, _, _], _ => rfl⟩⟩
  have F_law_set_a42b_e := fun_mk (st := st_law_set_a42b_e) l14 c14 k14
  have D_law_set_a42b_e : Dn K mg "_law_set" st_law_set_a42b_e ["dial", "at", "number"] := ⟨⟨_, _, F_law_set_a42b_e, PySem.W.mg_of X G a14, F_law_set_a42b_e.binds (ps := ["dial", "at", "number"]) fun _ _ _ _ _ _ us hl => match us, hl with | [_, _, _], _ => rfl⟩⟩
  have F_law_due_7c00 := fun_mk (st := st_law_due_7c00) l15 c15 k15
  have D_law_due_7c00 : Dn K mg "_law_due" st_law_due_7c00 ["state", "clock", "at", "number"] := ⟨⟨_, _, F_law_due_7c00, PySem.W.mg_of X G a15, F_law_due_7c00.binds (ps := ["state", "clock", "at", "number"]) fun _ _ _ _ _ _ us hl => match us, hl with | [_, _, _, _], _ => rfl⟩⟩
  have F_m_Dial_undo_e := fun_mk (st := st_m_Dial_undo_e) l16 c16 k16
  have D_m_Dial_undo_e : Dm K (Meth K C_Dial "undo") "undo" "Dial.undo" st_m_Dial_undo_e ["self"] := ⟨⟨_, _, funX_of F_m_Dial_undo_e, ⟨a16, i16, k16⟩, F_m_Dial_undo_e.binds (ps := ["self"]) fun _ _ _ _ _ _ us hl => match us, hl with | [_], _ => rfl⟩⟩
  have F_law_undo_81c7_e := fun_mk (st := st_law_undo_81c7_e) l17 c17 k17
  have D_law_undo_81c7_e : Dn K mg "_law_undo" st_law_undo_81c7_e ["dial"] := ⟨⟨_, _, F_law_undo_81c7_e, PySem.W.mg_of X G a17, F_law_undo_81c7_e.binds (ps := ["dial"]) fun _ _ _ _ _ _ us hl => match us, hl with | [_], _ => rfl⟩⟩
  have F_law_due_undo_8883 := fun_mk (st := st_law_due_undo_8883) l18 c18 k18
  have D_law_due_undo_8883 : Dn K mg "_law_due_undo" st_law_due_undo_8883 ["state"] := ⟨⟨_, _, F_law_due_undo_8883, PySem.W.mg_of X G a18, F_law_due_undo_8883.binds (ps := ["state"]) fun _ _ _ _ _ _ us hl => match us, hl with | [_], _ => rfl⟩⟩
  have F_m_Dial_redo_e := fun_mk (st := st_m_Dial_redo_e) l19 c19 k19
  have D_m_Dial_redo_e : Dm K (Meth K C_Dial "redo") "redo" "Dial.redo" st_m_Dial_redo_e ["self"] := ⟨⟨_, _, funX_of F_m_Dial_redo_e, ⟨a19, i19, k19⟩, F_m_Dial_redo_e.binds (ps := ["self"]) fun _ _ _ _ _ _ us hl => match us, hl with | [_], _ => rfl⟩⟩
  have F_law_redo_d6e1_e := fun_mk (st := st_law_redo_d6e1_e) l20 c20 k20
  have D_law_redo_d6e1_e : Dn K mg "_law_redo" st_law_redo_d6e1_e ["dial"] := ⟨⟨_, _, F_law_redo_d6e1_e, PySem.W.mg_of X G a20, F_law_redo_d6e1_e.binds (ps := ["dial"]) fun _ _ _ _ _ _ us hl => match us, hl with | [_], _ => rfl⟩⟩
  have F_law_due_redo_e502 := fun_mk (st := st_law_due_redo_e502) l21 c21 k21
  have D_law_due_redo_e502 : Dn K mg "_law_due_redo" st_law_due_redo_e502 ["state"] := ⟨⟨_, _, F_law_due_redo_e502, PySem.W.mg_of X G a21, F_law_due_redo_e502.binds (ps := ["state"]) fun _ _ _ _ _ _ us hl => match us, hl with | [_], _ => rfl⟩⟩
  have F_law_deed_9eae := fun_mk (st := st_law_deed_9eae) l22 c22 k22
  have D_law_deed_9eae : Dn K mg "_law_deed" st_law_deed_9eae ["deck", "dial", "state", "clock"] := ⟨⟨_, _, F_law_deed_9eae, PySem.W.mg_of X G a22, F_law_deed_9eae.binds (ps := ["deck", "dial", "state", "clock"]) fun _ _ _ _ _ _ us hl => match us, hl with | [_, _, _, _], _ => rfl⟩⟩
  have F_m_Dial_init := fun_mk (st := st_m_Dial_init) l23 c23 k23
  have D_m_Dial_init : DmX K (Mk K C_Dial) "__init__" "Dial.__init__" st_m_Dial_init ["self", "clock"] [] := ⟨⟨_, _, funX_of F_m_Dial_init, ⟨mk_Dial, a23, i23, kc_Dial⟩, F_m_Dial_init.binds (ps := ["self", "clock"]) fun _ _ _ _ _ _ us hl => match us, hl with | [_, _], _ => rfl, [], [], .nil, fun _ => .nil, F_m_Dial_init.binds (ps := ["self", "clock"]) fun _ _ _ _ _ _ us hl => match us, hl with | [_, _], _ => rfl⟩⟩
  have F_law := fun_mk (st := st_law) l24 c24 k24
  have b_list := PySem.W.mg_none_of X G z_list
  have b_int := PySem.W.mg_none_of X G z_int
  have b_len := PySem.W.mg_none_of X G z_len
  have b_abs := PySem.W.mg_none_of X G z_abs
  have b_isinstance := PySem.W.mg_none_of X G z_isinstance
  have b_bool := PySem.W.mg_none_of X G z_bool
  have b_tuple := PySem.W.mg_none_of X G z_tuple
  have b_sorted := PySem.W.mg_none_of X G z_sorted
  have b_range := PySem.W.mg_none_of X G z_range
  have b_repr := PySem.W.mg_none_of X G z_repr
  have b_ValueError := PySem.W.mg_none_of X G z_ValueError
  have g_MOST_TOLD := (⟨⟨.int (8), .int (8) t_MOST_TOLD, PySem.W.mg_of X G m_MOST_TOLD, ⟨_, rfl⟩, fun F => .int _⟩⟩ : Glb K mg "MOST_TOLD" (.int 8))
  have Fx_NoHour := fun_mk (st := st_x_NoHour) xl_NoHour xd_NoHour xk_NoHour
  have Fx_Told := fun_mk (st := st_x_Told) xl_Told xd_Told xk_Told
  refine ⟨PySem.W.fnOf "law" "law" (defArgs st_law) (defBody st_law) (defScope st_law) .none kV24 dc24 pm24 an24 cd24 ct24, fun s v => .of_eq rfl, fun base _ _ hnd => ?_⟩
  have x_NoHour : ExMk l.prog w K mg base 1 "NoHour" C_NoHour ["value"] := mk_x_NoHour Fx_NoHour m_HourError he_HourError ox_NoHour nx_NoHour_value xi_NoHour xt_NoHour m_NoHour (Fx_NoHour.binds (ps := ["self", "value"]) fun _ _ _ _ _ _ us hl => match us, hl with | [_, _], _ => rfl)
  have x_Told : ExMk l.prog w K mg base 1 "Told" C_Told ["at"] := mk_x_Told Fx_Told m_HourError he_HourError ox_Told nx_Told_at xi_Told xt_Told m_Told (Fx_Told.binds (ps := ["self", "at"]) fun _ _ _ _ _ _ us hl => match us, hl with | [_, _], _ => rfl)
  have c_law_deck_91e6 : Cal l.prog w K mg base 1 "_law_deck" ["script"] S_deck := cal_law_deck_91e6 (k := 0) hnd D_law_deck_91e6 b_list (by rintro args Q ⟨_, rfl, _⟩; rfl) (sp_deck)
  have c_law_draw_a51a : Cal l.prog w K mg base 1 "_law_draw" ["deck", "many"] S_draw := cal_law_draw_a51a (k := 0) hnd D_law_draw_a51a b_int b_len b_abs (by rintro args Q ⟨_, _, _, rfl, _⟩; rfl) (sp_draw)
  have c_law_one_90da : Cal l.prog w K mg base 2 "_law_one" ["deck", "items"] S_one := cal_law_one_90da (k := 1) hnd D_law_one_90da (c_law_draw_a51a.mono (by first | decide | omega)) b_len (by rintro args Q ⟨_, _, _, rfl, _⟩; rfl) (sp_one)
  have c_law_is_hour_b9ab : Cal l.prog w K mg base 1 "_law_is_hour" ["value", "clock"] S_ishr := cal_law_is_hour_b9ab (k := 0) hnd D_law_is_hour_b9ab b_isinstance b_bool b_int (by rintro args Q ⟨_, _, rfl, _⟩; rfl) (sp_ishr)
  have c_law_due_get_5072 : Cal l.prog w K mg base 2 "_law_due_get" ["state", "clock", "at"] S_ldueget := cal_law_due_get_5072 (k := 1) hnd D_law_due_get_5072 (c_law_is_hour_b9ab.mono (by first | decide | omega)) (by rintro args Q ⟨_, _, _, _, rfl, _⟩; rfl) (sp_ldueget)
  have c_is_integer_D : Cal l.prog w K mg base 1 "is_integer" ["value"] (S_isD C_Dial) := cal_is_integer_D (k := 0) hnd D_is_integer_D k_Dial m_Dial ic_Dial nc_Dial_bool nc_Dial_int b_isinstance b_bool b_int (by rintro args Q ⟨_, rfl, _⟩; rfl) (sp_isD C_Dial)
  have c_m_Dial_require_e : CalRE l.prog w K mg base 3 (Meth K C_Dial "require") ["self", "value"] (S_reqX C_Dial C_NoHour) := cal_m_Dial_require_e (k := 2) hnd D_m_Dial_require_e (c_is_integer_D.mono (by first | decide | omega)) m_NoHour x_NoHour (by first | decide | omega) k_Dial n_Dial_clock (by rintro args Q E ⟨_, _, _, _, _, _, rfl, _⟩; rfl) (sp_reqX C_Dial C_NoHour C_Dial)
  have c_m_Dial_getitem_e : CalRE l.prog w K mg base 4 (GetC K C_Dial) ["self", "at"] (S_getX C_Dial C_NoHour) := cal_m_Dial_getitem_e (k := 3) hnd D_m_Dial_getitem_e k_Dial n_Dial_standing (c_m_Dial_require_e.mono (by first | decide | omega)) (by rintro args Q E ⟨_, _, _, _, _, _, rfl, _⟩; rfl) (sp_getX C_Dial C_NoHour)
  have c_law_get_4e47_e : Cal l.prog w K mg base 6 "_law_get" ["dial", "at"] (S_lget C_Dial) := cal_law_get_4e47_e (k := 5) hnd D_law_get_4e47_e m_HourError m_NoHour m_Told m_Full m_NothingTold m_NothingUndone em_Told_HourError em_Full_HourError em_NothingTold_HourError em_NothingUndone_HourError em_NoHour_NoHour em_Told_NoHour em_Full_NoHour em_NothingTold_NoHour em_NothingUndone_NoHour xf_NoHour nx_NoHour_value k_Dial (kg := 4) (by first | decide | omega) c_m_Dial_getitem_e (by rintro args Q ⟨_, _, _, _, _, _, rfl, _⟩; rfl) (sp_lget C_Dial C_HourError C_NoHour C_Told C_Full C_NothingTold C_NothingUndone)
  have c_m_Dial_len : CalR l.prog w K mg base 1 (LenC K C_Dial) ["self"] (S_dlen C_Dial) := cal_m_Dial_len (k := 0) hnd D_m_Dial_len k_Dial n_Dial_standing b_len (by rintro args Q ⟨_, _, _, _, _, rfl, _⟩; rfl) (sp_dlen C_Dial)
  have c_m_Dial_told : CalR l.prog w K mg base 1 (Meth K C_Dial "told") ["self"] (S_dtold C_Dial) := cal_m_Dial_told (k := 0) hnd D_m_Dial_told k_Dial n_Dial_standing b_tuple b_sorted (by rintro args Q ⟨_, _, _, _, _, rfl, _⟩; rfl) (sp_dtold C_Dial)
  have c_law_held_2b08 : Cal l.prog w K mg base 7 "_law_held" ["dial", "state", "clock"] (S_held C_Dial) := cal_law_held_2b08 (k := 6) hnd D_law_held_2b08 (c_law_due_get_5072.mono (by first | decide | omega)) (c_law_get_4e47_e.mono (by first | decide | omega)) k_Dial (kl := 1) (by first | decide | omega) c_m_Dial_len (c_m_Dial_told.mono (by first | decide | omega)) b_range b_len b_tuple b_sorted b_repr (by rintro args Q ⟨_, _, _, _, _, rfl, _⟩; rfl) (sp_held C_Dial)
  have c_law_odd_ed94 : Cal l.prog w K mg base 3 "_law_odd" ["deck", "clock"] S_lodd := cal_law_odd_ed94 (k := 2) hnd D_law_odd_ed94 (c_law_one_90da.mono (by first | decide | omega)) (c_law_draw_a51a.mono (by first | decide | omega)) (by rintro args Q ⟨_, _, _, rfl, _⟩; rfl) (sp_lodd)
  have c_m_Dial_setitem_e : CalRE l.prog w K mg base 6 (SetC K C_Dial) ["self", "at", "hour"] (S_setX C_Dial C_NoHour C_Told C_Full) := cal_m_Dial_setitem_e (k := 5) hnd D_m_Dial_setitem_e m_Told m_Full x_Told z_Full (by first | decide | omega) k_Dial n_Dial_standing n_Dial_undone (c_m_Dial_require_e.mono (by first | decide | omega)) (kg := 4) (by first | decide | omega) c_m_Dial_getitem_e b_len g_MOST_TOLD (by rintro args Q E ⟨_, _, _, _, _, _, _, rfl, _⟩; rfl) (sp_setX C_Dial C_NoHour C_Told C_Full)
  have c_law_set_a42b_e : Cal l.prog w K mg base 7 "_law_set" ["dial", "at", "number"] (S_lset C_Dial) := cal_law_set_a42b_e (k := 6) hnd D_law_set_a42b_e m_HourError m_NoHour m_Told m_Full m_NothingTold m_NothingUndone em_NothingTold_HourError em_NothingUndone_HourError em_Full_Full em_NothingTold_Full em_NothingUndone_Full xe_Full ki_Full_ValueError ki_Full_HourError em_Told_Told em_Full_Told em_NothingTold_Told em_NothingUndone_Told xf_Told nx_Told_at em_NoHour_NoHour em_Told_NoHour em_Full_NoHour em_NothingTold_NoHour em_NothingUndone_NoHour xf_NoHour nx_NoHour_value k_Dial (c_m_Dial_setitem_e.mono (by first | decide | omega)) b_isinstance b_ValueError (by rintro args Q ⟨_, _, _, _, _, _, _, rfl, _⟩; rfl) (sp_lset C_Dial C_HourError C_NoHour C_Told C_Full C_NothingTold C_NothingUndone)
  have c_law_due_7c00 : Cal l.prog w K mg base 2 "_law_due" ["state", "clock", "at", "number"] S_ldue := cal_law_due_7c00 (k := 1) hnd D_law_due_7c00 (c_law_is_hour_b9ab.mono (by first | decide | omega)) b_len (by rintro args Q ⟨_, _, _, _, _, rfl, _⟩; rfl) (sp_ldue)
  have c_m_Dial_undo_e : CalRE l.prog w K mg base 1 (Meth K C_Dial "undo") ["self"] (S_undoX C_Dial C_NothingTold) := cal_m_Dial_undo_e (k := 0) hnd D_m_Dial_undo_e m_NothingTold z_NothingTold k_Dial n_Dial_standing n_Dial_undone (by rintro args Q E ⟨_, _, _, _, _, rfl, _⟩; rfl) (sp_undoX C_Dial C_NothingTold)
  have c_law_undo_81c7_e : Cal l.prog w K mg base 2 "_law_undo" ["dial"] (S_lundo C_Dial) := cal_law_undo_81c7_e (k := 1) hnd D_law_undo_81c7_e m_HourError m_NoHour m_Told m_Full m_NothingTold m_NothingUndone em_NoHour_HourError em_Told_HourError em_Full_HourError em_NothingUndone_HourError em_NoHour_NothingTold em_Told_NothingTold em_Full_NothingTold em_NothingTold_NothingTold em_NothingUndone_NothingTold xe_NothingTold ki_NothingTold_ValueError ki_NothingTold_HourError k_Dial (c_m_Dial_undo_e.mono (by first | decide | omega)) b_isinstance b_ValueError (by rintro args Q ⟨_, _, _, _, _, rfl, _⟩; rfl) (sp_lundo C_Dial C_HourError C_NoHour C_Told C_Full C_NothingTold C_NothingUndone)
  have c_law_due_undo_8883 : Cal l.prog w K mg base 1 "_law_due_undo" ["state"] S_dundo := cal_law_due_undo_8883 (k := 0) hnd D_law_due_undo_8883 (by rintro args Q ⟨_, _, rfl, _⟩; rfl) (sp_dundo)
  have c_m_Dial_redo_e : CalRE l.prog w K mg base 1 (Meth K C_Dial "redo") ["self"] (S_redoX C_Dial C_NothingUndone) := cal_m_Dial_redo_e (k := 0) hnd D_m_Dial_redo_e m_NothingUndone z_NothingUndone k_Dial n_Dial_undone n_Dial_standing (by rintro args Q E ⟨_, _, _, _, _, rfl, _⟩; rfl) (sp_redoX C_Dial C_NothingUndone)
  have c_law_redo_d6e1_e : Cal l.prog w K mg base 2 "_law_redo" ["dial"] (S_lredo C_Dial) := cal_law_redo_d6e1_e (k := 1) hnd D_law_redo_d6e1_e m_HourError m_NoHour m_Told m_Full m_NothingTold m_NothingUndone em_NoHour_HourError em_Told_HourError em_Full_HourError em_NothingTold_HourError em_NoHour_NothingUndone em_Told_NothingUndone em_Full_NothingUndone em_NothingTold_NothingUndone em_NothingUndone_NothingUndone xe_NothingUndone ki_NothingUndone_ValueError ki_NothingUndone_HourError k_Dial (c_m_Dial_redo_e.mono (by first | decide | omega)) b_isinstance b_ValueError (by rintro args Q ⟨_, _, _, _, _, rfl, _⟩; rfl) (sp_lredo C_Dial C_HourError C_NoHour C_Told C_Full C_NothingTold C_NothingUndone)
  have c_law_due_redo_e502 : Cal l.prog w K mg base 1 "_law_due_redo" ["state"] S_dredo := cal_law_due_redo_e502 (k := 0) hnd D_law_due_redo_e502 (by rintro args Q ⟨_, _, rfl, _⟩; rfl) (sp_dredo)
  have c_law_deed_9eae : Cal l.prog w K mg base 8 "_law_deed" ["deck", "dial", "state", "clock"] (S_deed C_Dial) := cal_law_deed_9eae (k := 7) hnd D_law_deed_9eae (c_law_draw_a51a.mono (by first | decide | omega)) (c_law_odd_ed94.mono (by first | decide | omega)) (c_law_set_a42b_e.mono (by first | decide | omega)) (c_law_due_7c00.mono (by first | decide | omega)) (c_law_undo_81c7_e.mono (by first | decide | omega)) (c_law_due_undo_8883.mono (by first | decide | omega)) (c_law_redo_d6e1_e.mono (by first | decide | omega)) (c_law_due_redo_e502.mono (by first | decide | omega)) (c_law_get_4e47_e.mono (by first | decide | omega)) (c_law_due_get_5072.mono (by first | decide | omega)) b_repr (by rintro args Q ⟨_, _, _, _, _, _, _, rfl, _⟩; rfl) (sp_deed C_Dial)
  have c_m_Dial_init : CalX l.prog w K mg base 1 (Mk K C_Dial) ["self", "clock"] (S_dinit C_Dial) [] := cal_m_Dial_init (k := 0) hnd D_m_Dial_init k_Dial n_Dial_clock n_Dial_standing n_Dial_undone (by rintro args Q ⟨_, rfl, _⟩; rfl) (sp_dinit C_Dial)
  exact fn_law (k := 8) hnd F_law (c_law_deck_91e6.mono (by first | decide | omega)) (c_law_one_90da.mono (by first | decide | omega)) (c_law_draw_a51a.mono (by first | decide | omega)) (c_law_held_2b08.mono (by first | decide | omega)) (c_law_deed_9eae.mono (by first | decide | omega)) (c_law_undo_81c7_e.mono (by first | decide | omega)) (c_law_due_undo_8883.mono (by first | decide | omega)) k_Dial m_Dial (k0 := 1) (by first | decide | omega) c_m_Dial_init (kl := 1) (by first | decide | omega) c_m_Dial_len b_range b_repr b_len (by rintro args Q ⟨_, rfl, _⟩; rfl) (sp_law C_Dial)
end DL
open PySem PySem.W PyProof.Rows
set_option maxRecDepth 100000 in
set_option maxHeartbeats 0 in
theorem PySem.Challenge.cw_hourforms_k56_dials_taken_back_holds : PySem.Challenge.rw_hourforms_k56_dials_taken_back.Holds := by
  w_on; o_law; k_head; (case hw => w_witness2)
  k_fill
  refine DL.walkG (l := PySem.Challenge.rw_hourforms_k56_dials_taken_back) (x := "script") (k := 9) rfl rfl ⟨rfl, by decide, by decide⟩ (fun w h Y => PySem.W.kIn_of Y) ?F
  case F =>
    intro w mg fa h KX G hmg
    refine' DL.all_mk KX G hmg ?aC_Dial ?pg_Dial ?hd_Dial ?po_Dial ?sa_Dial ?mk_Dial ?kc_Dial ?aC_NoHour ?aC_HourError ?aC_Told ?aC_Full ?aC_NothingTold ?aC_NothingUndone ?eC_NoHour ?tC_NoHour ?hC_NoHour ?eC_HourError ?tC_HourError ?hC_HourError ?eC_Told ?tC_Told ?hC_Told ?eC_Full ?tC_Full ?hC_Full ?eC_NothingTold ?tC_NothingTold ?hC_NothingTold ?eC_NothingUndone ?tC_NothingUndone ?hC_NothingUndone ?kC_NoHour ?kC_Told ?kC_Full ?kC_NothingTold ?kC_NothingUndone ?ga_NoHour ?gg_NoHour ?ga_Told ?gg_Told ?ex_Full ?ga_Full ?gg_Full ?xa_Full ?xb_Full ?xc_Full ?xm_Full ?ex_NothingTold ?ga_NothingTold ?gg_NothingTold ?xa_NothingTold ?xb_NothingTold ?xc_NothingTold ?xm_NothingTold ?ex_NothingUndone ?ga_NothingUndone ?gg_NothingUndone ?xa_NothingUndone ?xb_NothingUndone ?xc_NothingUndone ?xm_NothingUndone ?sg_HourError ?rd_HourError ?vi_HourError ?nx_NoHour_value ?nx_Told_at ?xL_NoHour ?xs_NoHour ?xi_NoHour ?xt_NoHour ?xl_NoHour ?xd_NoHour ?xk_NoHour ?xL_Told ?xs_Told ?xi_Told ?xt_Told ?xl_Told ?xd_Told ?xk_Told ?su_Told_HourError ?su_Full_HourError ?su_NothingTold_HourError ?su_NothingUndone_HourError ?su_NoHour_NoHour ?su_Told_NoHour ?su_Full_NoHour ?su_NothingTold_NoHour ?su_NothingUndone_NoHour ?su_Full_Full ?su_NothingTold_Full ?su_NothingUndone_Full ?ki_Full_ValueError ?ki_Full_HourError ?su_Told_Told ?su_Full_Told ?su_NothingTold_Told ?su_NothingUndone_Told ?su_NoHour_HourError ?su_NoHour_NothingTold ?su_Told_NothingTold ?su_Full_NothingTold ?su_NothingTold_NothingTold ?su_NothingUndone_NothingTold ?ki_NothingTold_ValueError ?ki_NothingTold_HourError ?su_NoHour_NothingUndone ?su_Told_NothingUndone ?su_Full_NothingUndone ?su_NothingTold_NothingUndone ?su_NothingUndone_NothingUndone ?ki_NothingUndone_ValueError ?ki_NothingUndone_HourError ?ti_Dial_NoneType ?ti_Dial_bool ?ti_Dial_int ?ti_Dial_str ?ti_Dial_list ?ti_Dial_tuple ?ca_Dial ?cb_Dial ?cc_Dial ?no_Dial_bool ?no_Dial_int ?mo_Dial ?nf_Dial_clock ?nf_Dial_standing ?nf_Dial_undone ?a0 ?l0 ?c0 ?k0 ?a1 ?l1 ?c1 ?k1 ?a2 ?l2 ?c2 ?k2 ?a3 ?l3 ?c3 ?k3 ?a4 ?l4 ?c4 ?k4 ?a5 ?l5 ?c5 ?k5 ?a6 ?i6 ?l6 ?c6 ?k6 ?a7 ?i7 ?l7 ?c7 ?k7 ?g7 ?a8 ?l8 ?c8 ?k8 ?a9 ?i9 ?l9 ?c9 ?k9 ?a10 ?i10 ?l10 ?c10 ?k10 ?a11 ?l11 ?c11 ?k11 ?a12 ?l12 ?c12 ?k12 ?a13 ?i13 ?l13 ?c13 ?k13 ?sq13 ?a14 ?l14 ?c14 ?k14 ?a15 ?l15 ?c15 ?k15 ?a16 ?i16 ?l16 ?c16 ?k16 ?a17 ?l17 ?c17 ?k17 ?a18 ?l18 ?c18 ?k18 ?a19 ?i19 ?l19 ?c19 ?k19 ?a20 ?l20 ?c20 ?k20 ?a21 ?l21 ?c21 ?k21 ?a22 ?l22 ?c22 ?k22 ?a23 ?i23 ?l23 ?c23 ?k23 ?a24 ?l24 ?c24 ?k24 ?z_list ?z_int ?z_len ?z_abs ?z_isinstance ?z_bool ?z_tuple ?z_sorted ?z_range ?z_repr ?z_ValueError ?m_MOST_TOLD
    (case aC_Dial => k_is)
    (case pg_Dial => k_is)
    (case hd_Dial => k_is)
    (case po_Dial => k_is)
    (case sa_Dial => k_is)
    (case mk_Dial => k_is)
    (case kc_Dial => k_is)
    (case aC_NoHour => k_is)
    (case aC_HourError => k_is)
    (case aC_Told => k_is)
    (case aC_Full => k_is)
    (case aC_NothingTold => k_is)
    (case aC_NothingUndone => k_is)
    (case eC_NoHour => k_is)
    (case tC_NoHour => k_is)
    (case hC_NoHour => k_is)
    (case eC_HourError => k_is)
    (case tC_HourError => k_is)
    (case hC_HourError => k_is)
    (case eC_Told => k_is)
    (case tC_Told => k_is)
    (case hC_Told => k_is)
    (case eC_Full => k_is)
    (case tC_Full => k_is)
    (case hC_Full => k_is)
    (case eC_NothingTold => k_is)
    (case tC_NothingTold => k_is)
    (case hC_NothingTold => k_is)
    (case eC_NothingUndone => k_is)
    (case tC_NothingUndone => k_is)
    (case hC_NothingUndone => k_is)
    (case kC_NoHour => k_is)
    (case kC_Told => k_is)
    (case kC_Full => k_is)
    (case kC_NothingTold => k_is)
    (case kC_NothingUndone => k_is)
    (case ga_NoHour => k_is)
    (case gg_NoHour => k_is)
    (case ga_Told => k_is)
    (case gg_Told => k_is)
    (case ex_Full => k_exc)
    (case ga_Full => k_is)
    (case gg_Full => k_is)
    (case xa_Full => k_is)
    (case xb_Full => k_is)
    (case xc_Full => k_is)
    (case xm_Full => k_is)
    (case ex_NothingTold => k_exc)
    (case ga_NothingTold => k_is)
    (case gg_NothingTold => k_is)
    (case xa_NothingTold => k_is)
    (case xb_NothingTold => k_is)
    (case xc_NothingTold => k_is)
    (case xm_NothingTold => k_is)
    (case ex_NothingUndone => k_exc)
    (case ga_NothingUndone => k_is)
    (case gg_NothingUndone => k_is)
    (case xa_NothingUndone => k_is)
    (case xb_NothingUndone => k_is)
    (case xc_NothingUndone => k_is)
    (case xm_NothingUndone => k_is)
    (case sg_HourError => k_is)
    (case rd_HourError => k_is)
    (case vi_HourError => k_is)
    (case nx_NoHour_value => k_is)
    (case nx_Told_at => k_is)
    (case xL_NoHour => k_is)
    (case xs_NoHour => k_is)
    (case xi_NoHour => k_is)
    (case xt_NoHour => k_is)
    (case xl_NoHour => k_is)
    (case xd_NoHour => k_is)
    (case xk_NoHour => k_is)
    (case xL_Told => k_is)
    (case xs_Told => k_is)
    (case xi_Told => k_is)
    (case xt_Told => k_is)
    (case xl_Told => k_is)
    (case xd_Told => k_is)
    (case xk_Told => k_is)
    (case su_Told_HourError => k_is)
    (case su_Full_HourError => k_is)
    (case su_NothingTold_HourError => k_is)
    (case su_NothingUndone_HourError => k_is)
    (case su_NoHour_NoHour => k_is)
    (case su_Told_NoHour => k_is)
    (case su_Full_NoHour => k_is)
    (case su_NothingTold_NoHour => k_is)
    (case su_NothingUndone_NoHour => k_is)
    (case su_Full_Full => k_is)
    (case su_NothingTold_Full => k_is)
    (case su_NothingUndone_Full => k_is)
    (case ki_Full_ValueError => kit_is)
    (case ki_Full_HourError => kit_is)
    (case su_Told_Told => k_is)
    (case su_Full_Told => k_is)
    (case su_NothingTold_Told => k_is)
    (case su_NothingUndone_Told => k_is)
    (case su_NoHour_HourError => k_is)
    (case su_NoHour_NothingTold => k_is)
    (case su_Told_NothingTold => k_is)
    (case su_Full_NothingTold => k_is)
    (case su_NothingTold_NothingTold => k_is)
    (case su_NothingUndone_NothingTold => k_is)
    (case ki_NothingTold_ValueError => kit_is)
    (case ki_NothingTold_HourError => kit_is)
    (case su_NoHour_NothingUndone => k_is)
    (case su_Told_NothingUndone => k_is)
    (case su_Full_NothingUndone => k_is)
    (case su_NothingTold_NothingUndone => k_is)
    (case su_NothingUndone_NothingUndone => k_is)
    (case ki_NothingUndone_ValueError => kit_is)
    (case ki_NothingUndone_HourError => kit_is)
    (case ti_Dial_NoneType => kit_is)
    (case ti_Dial_bool => kit_is)
    (case ti_Dial_int => kit_is)
    (case ti_Dial_str => kit_is)
    (case ti_Dial_list => kit_is)
    (case ti_Dial_tuple => kit_is)
    (case ca_Dial => k_is)
    (case cb_Dial => k_is)
    (case cc_Dial => k_is)
    (case no_Dial_bool => kit_is)
    (case no_Dial_int => kit_is)
    (case mo_Dial => k_is)
    (case nf_Dial_clock => k_is)
    (case nf_Dial_standing => k_is)
    (case nf_Dial_undone => k_is)
    (case a0 => k_is)
    (case l0 => k_is)
    (case c0 => k_is)
    (case k0 => k_is)
    (case a1 => k_is)
    (case l1 => k_is)
    (case c1 => k_is)
    (case k1 => k_is)
    (case a2 => k_is)
    (case l2 => k_is)
    (case c2 => k_is)
    (case k2 => k_is)
    (case a3 => k_is)
    (case l3 => k_is)
    (case c3 => k_is)
    (case k3 => k_is)
    (case a4 => k_is)
    (case l4 => k_is)
    (case c4 => k_is)
    (case k4 => k_is)
    (case a5 => k_is)
    (case l5 => k_is)
    (case c5 => k_is)
    (case k5 => k_is)
    (case a6 => k_is)
    (case i6 => k_is)
    (case l6 => k_is)
    (case c6 => k_is)
    (case k6 => k_is)
    (case a7 => k_is)
    (case i7 => k_is)
    (case l7 => k_is)
    (case c7 => k_is)
    (case k7 => k_is)
    (case g7 => k_is)
    (case a8 => k_is)
    (case l8 => k_is)
    (case c8 => k_is)
    (case k8 => k_is)
    (case a9 => k_is)
    (case i9 => k_is)
    (case l9 => k_is)
    (case c9 => k_is)
    (case k9 => k_is)
    (case a10 => k_is)
    (case i10 => k_is)
    (case l10 => k_is)
    (case c10 => k_is)
    (case k10 => k_is)
    (case a11 => k_is)
    (case l11 => k_is)
    (case c11 => k_is)
    (case k11 => k_is)
    (case a12 => k_is)
    (case l12 => k_is)
    (case c12 => k_is)
    (case k12 => k_is)
    (case a13 => k_is)
    (case i13 => k_is)
    (case l13 => k_is)
    (case c13 => k_is)
    (case k13 => k_is)
    (case sq13 => k_is)
    (case a14 => k_is)
    (case l14 => k_is)
    (case c14 => k_is)
    (case k14 => k_is)
    (case a15 => k_is)
    (case l15 => k_is)
    (case c15 => k_is)
    (case k15 => k_is)
    (case a16 => k_is)
    (case i16 => k_is)
    (case l16 => k_is)
    (case c16 => k_is)
    (case k16 => k_is)
    (case a17 => k_is)
    (case l17 => k_is)
    (case c17 => k_is)
    (case k17 => k_is)
    (case a18 => k_is)
    (case l18 => k_is)
    (case c18 => k_is)
    (case k18 => k_is)
    (case a19 => k_is)
    (case i19 => k_is)
    (case l19 => k_is)
    (case c19 => k_is)
    (case k19 => k_is)
    (case a20 => k_is)
    (case l20 => k_is)
    (case c20 => k_is)
    (case k20 => k_is)
    (case a21 => k_is)
    (case l21 => k_is)
    (case c21 => k_is)
    (case k21 => k_is)
    (case a22 => k_is)
    (case l22 => k_is)
    (case c22 => k_is)
    (case k22 => k_is)
    (case a23 => k_is)
    (case i23 => k_is)
    (case l23 => k_is)
    (case c23 => k_is)
    (case k23 => k_is)
    (case a24 => k_is)
    (case l24 => k_is)
    (case c24 => k_is)
    (case k24 => k_is)
    (case z_list => k_is)
    (case z_int => k_is)
    (case z_len => k_is)
    (case z_abs => k_is)
    (case z_isinstance => k_is)
    (case z_bool => k_is)
    (case z_tuple => k_is)
    (case z_sorted => k_is)
    (case z_range => k_is)
    (case z_repr => k_is)
    (case z_ValueError => k_is)
    (case m_MOST_TOLD => k_is)
