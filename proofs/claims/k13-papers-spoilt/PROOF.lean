import PyProof.Rows.All
import Wide.All
import OpenK.AllK
import Wide.FinOn
import HandS.ForMost
import HandS.Wide
import HandS.IsInst
import HandS.TupAny
import HandS.TupLe
import HandS.TupMul
import HandS.SortInts
import HandS.Style
import HandS.NoneIn
import HandS.Zip
import PyProof.Rows.Digits
import PyProof.ReprRoads
import PyProof.Rows.StrOr
import HandS.Dict
import HandS.Conv
import HandS.TupSets
import HandS.Keys
import KE.KTupSum
import HandS.More
import PyProof.StrLawsIn
import HandS.TupLen
import PyProof.Rows.TupAdd
import KE.GoesEnum
import HandS.Star
import HandS.Defaults
import HandS.SetFor
import HandS.Strs
import KE.KOpsOwn
import KE.KFmtOwn
import HandS.OwnEq
import HandS.WordsDict
import HandS.Exc
import HandS.ExcInit
import HandS.ExcField
import HandS.ExcIs
import HandS.ExcOwn
import HandS.Lambda
import HandS.TryMany
import HandS.DictComp
import KE.DataMinMax
import PyProof.Rows.CallKwBuiltin
import HandS.Iter
import KE.IntTextLaws
import HandS.SortOrd
import HandS.SortRule
import PySem.Challenge.RW_hourforms_k13_papers_spoilt
set_option Elab.async false
set_option linter.all false
set_option maxRecDepth 100000
set_option maxHeartbeats 1000000
set_option autoImplicit false
namespace DL
open PySem L2
abbrev PD := PyData
def keyD : Key → PD
  | .inl i => .int i
  | .inr s => .str s
theorem seqT {K : PySem.W.Frag} {H H' : Hp} {a : Addr} {xs : List V} (e : Same H H') (h : SqT K H a xs) : SqT K H' a xs := by
  rcases h with (h | ⟨o, h⟩) | h
  · exact .inl (.inl (e _ _ h))
  · exact .inl (.inr ⟨o, e _ _ h⟩)
  · exact .inr h
theorem rdM {H H' : Hp} {a : Addr} {u : HO} (e : Same H H') (h : Rd H a u) : Rd H' a u := by
  rcases h with h | ⟨o, h⟩
  · exact .inl (e _ _ h)
  · exact .inr ⟨o, e _ _ h⟩
mutual
/-- the value v stands, in H, for the data d -/
inductive Df (K : PySem.W.Frag) (H : Hp) : V → PD → Prop
  | non : Df K H .non .none
  | bl (b : Bool) : Df K H (.bl b) (.bool b)
  | int (i : Int) : Df K H (.int i) (.int i)
  | str (x : Str) : Df K H (.str x) (.str x)
  | lst {a : Addr} {xs : List V} {ds : List PD} : Rd H a (.lst xs) → DfA K H xs ds → Df K H (.ref a) (.list ds)
  | tup {a : Addr} {xs : List V} {ds : List PD} : SqT K H a xs → DfA K H xs ds → Df K H (.ref a) (.tuple ds)
  | dk {a : Addr} {kvs : List (Key × V)} {es : List (PD × PD)} : Rd H a (.dK kvs) → DfK K H kvs es → Df K H (.ref a) (.dict es)
  | ins {a C dx : Addr} {fs : List (Str × V)} {es : List (PD × PD)} : H a = some (.ins C dx fs) → DfF K H fs es → Df K H (.ref a) (.dict ((.none, .int (C : Int)) :: es))
  /-- a caught error of the class at C without attributes -/
  | ex0 {a C : Addr} : Df K H (.ref a) (.dict [(.bool true, .int (C : Int)), (.bool true, .int (a : Int)), (.bool true, .none)])
  /-- .. its attributes at dd -/
  | ex1 {a C dd : Addr} {fs : List (Str × V)} {es : List (PD × PD)} : H dd = some (.xd fs) → DfF K H fs es → Df K H (.ref a) (.dict ((.bool true, .int (C : Int)) :: (.bool true, .int (a : Int)) :: (.bool true, .int (dd : Int)) :: es))
  /-- a locked dict -/
  | dkL {a : Addr} {o : Obj} {kvs : List (Key × V)} {es : List (PD × PD)} : H a = some (.frz o (.dK kvs)) → DfK K H kvs es → Df K H (.ref a) (.dict ((.bool false, .none) :: es))
  /-- a tuple that is a key of an own dict, or may be one -/
  | ky {a : Addr} {ks : List Key} : H a = some (.tup (ks.map kV)) → Df K H (.ref a) (.dict [(.bool false, .tuple (ks.map keyD))])
inductive DfA (K : PySem.W.Frag) (H : Hp) : List V → List PD → Prop
  | nil : DfA K H [] []
  | cons {v : V} {vs : List V} {d : PD} {ds : List PD} : Df K H v d → DfA K H vs ds → DfA K H (v :: vs) (d :: ds)
inductive DfK (K : PySem.W.Frag) (H : Hp) : List (Key × V) → List (PD × PD) → Prop
  | nil : DfK K H [] []
  | cons {k : Key} {v : V} {vs : List (Key × V)} {d : PD} {ds : List (PD × PD)} : Df K H v d → DfK K H vs ds → DfK K H ((k, v) :: vs) ((keyD k, d) :: ds)
inductive DfF (K : PySem.W.Frag) (H : Hp) : List (Str × V) → List (PD × PD) → Prop
  | nil : DfF K H [] []
  | cons {k : Str} {v : V} {vs : List (Str × V)} {d : PD} {ds : List (PD × PD)} : Df K H v d → DfF K H vs ds → DfF K H ((k, v) :: vs) ((.str k, d) :: ds)
end
section
variable {K : PySem.W.Frag} {H H' F F' : Hp} {v : V} {d : PD} {vs : List V} {ds : List PD}
theorem Df.mono (e : Same H H') (h : Df K H v d) : Df K H' v d :=
  Df.rec (motive_1 := fun v d _ => Df K H' v d) (motive_2 := fun vs ds _ => DfA K H' vs ds) (motive_3 := fun vs ds _ => DfK K H' vs ds) (motive_4 := fun vs ds _ => DfF K H' vs ds)
    .non .bl .int .str (fun h _ ih => .lst (rdM e h) ih) (fun h _ ih => .tup (seqT e h) ih) (fun h _ ih => .dk (rdM e h) ih) (fun h _ ih => .ins (e _ _ h) ih) .ex0 (fun h _ ih => .ex1 (e _ _ h) ih) (fun h _ ih => .dkL (e _ _ h) ih) (fun h => .ky (e _ _ h))
    .nil (fun _ _ a b => .cons a b) .nil (fun _ _ a b => .cons a b) .nil (fun _ _ a b => .cons a b) h
theorem DfA.mono (e : Same H H') (h : DfA K H vs ds) : DfA K H' vs ds := by
  induction vs generalizing ds with
  | nil => cases h; exact .nil
  | cons v vs ih =>
    cases h with
    | cons a b => exact .cons (a.mono e) (ih b)
theorem DfK.mono {vs : List (Key × V)} {ds : List (PD × PD)} (e : Same H H') (h : DfK K H vs ds) : DfK K H' vs ds := by
  induction vs generalizing ds with
  | nil => cases h; exact .nil
  | cons v vs ih =>
    cases h with
    | cons a b => exact .cons (a.mono e) (ih b)
theorem DfF.mono {vs : List (Str × V)} {ds : List (PD × PD)} (e : Same H H') (h : DfF K H vs ds) : DfF K H' vs ds := by
  induction vs generalizing ds with
  | nil => cases h; exact .nil
  | cons v vs ih =>
    cases h with
    | cons a b => exact .cons (a.mono e) (ih b)
theorem DfA.length (h : DfA K H vs ds) : vs.length = ds.length := by
  induction vs generalizing ds with
  | nil => cases h; rfl
  | cons v vs ih =>
    cases h with
    | cons a b => rw [List.length_cons, List.length_cons, ih b]
theorem DfA.append {us : List V} {es : List PD} (h : DfA K H vs ds) (g : DfA K H us es) : DfA K H (vs ++ us) (ds ++ es) := by
  induction vs generalizing ds with
  | nil => cases h; exact g
  | cons v vs ih =>
    cases h with
    | cons a b => exact .cons a (ih b)
theorem DfA.get {i : Nat} (h : DfA K H vs ds) (e : ds[i]? = some d) : ∃ v, vs[i]? = some v ∧ Df K H v d := by
  induction vs generalizing ds i with
  | nil => cases h; simp at e
  | cons v vs ih =>
    cases h with
    | cons a b =>
      cases i with
      | zero => simp at e; subst e; exact ⟨v, rfl, a⟩
      | succ i => simp at e; obtain ⟨u, h1, h2⟩ := ih b e; exact ⟨u, by simpa using h1, h2⟩
theorem DfA.get' {i : Nat} (h : DfA K H vs ds) (e : vs[i]? = some v) : ∃ d, ds[i]? = some d ∧ Df K H v d := by
  induction vs generalizing ds i with
  | nil => simp at e
  | cons u vs ih =>
    cases h with
    | cons a b =>
      cases i with
      | zero => simp at e; subst e; exact ⟨_, rfl, a⟩
      | succ i => simp at e; obtain ⟨u, h1, h2⟩ := ih b e; exact ⟨u, by simpa using h1, h2⟩
theorem DfA.take (n : Nat) (h : DfA K H vs ds) : DfA K H (vs.take n) (ds.take n) := by
  induction vs generalizing ds n with
  | nil => cases h; simp; exact .nil
  | cons v vs ih =>
    cases h with
    | cons a b =>
      cases n with
      | zero => exact .nil
      | succ n => exact .cons a (ih n b)
theorem DfA.drop (n : Nat) (h : DfA K H vs ds) : DfA K H (vs.drop n) (ds.drop n) := by
  induction vs generalizing ds n with
  | nil => cases h; simp; exact .nil
  | cons v vs ih =>
    cases h with
    | cons a b =>
      cases n with
      | zero => exact .cons a b
      | succ n => exact ih n b
theorem DfA.set (i : Nat) (h : DfA K H vs ds) (g : Df K H v d) : DfA K H (vs.set i v) (ds.set i d) := by
  induction vs generalizing ds i with
  | nil => cases h; exact .nil
  | cons v vs ih =>
    cases h with
    | cons a b =>
      cases i with
      | zero => exact .cons g b
      | succ i => exact .cons a (ih i b)
theorem DfA.snoc (h : DfA K H vs ds) (g : Df K H v d) : DfA K H (vs ++ [v]) (ds ++ [d]) := h.append (.cons g .nil)
theorem DfA.replicate (n : Nat) (g : DfA K H vs ds) : DfA K H (List.replicate n vs).flatten (List.replicate n ds).flatten := by
  induction n with
  | zero => exact .nil
  | succ n ih => rw [List.replicate_succ, List.replicate_succ, List.flatten_cons, List.flatten_cons]; exact g.append ih
theorem DfA.ints (ns : List Int) : DfA K H (ns.map V.int) (ns.map PyData.int) := by
  induction ns with
  | nil => exact .nil
  | cons n r ih => exact .cons (.int n) ih
end
mutual
def noDict : PD → Bool
  | .dict _ => false
  | .list xs => noDictA xs
  | .tuple xs => noDictA xs
  | _ => true
def noDictA : List PD → Bool
  | [] => true
  | x :: r => noDict x && noDictA r
end
section
variable {K : PySem.W.Frag} {H : Hp}
theorem Df.dp {v : V} {d : PD} (h : Df K H v d) : noDict d = true → Dp K H v d :=
  Df.rec (motive_1 := fun v d _ => noDict d = true → Dp K H v d) (motive_2 := fun vs ds _ => noDictA ds = true → DpAll K H vs ds) (motive_3 := fun _ _ _ => True) (motive_4 := fun _ _ _ => True)
    (fun _ => .non) (fun b _ => .bl b) (fun i _ => .int i) (fun x _ => .str x) (fun h _ ih e => .lst (.inl h) (ih (by simpa [noDict] using e))) (fun h _ ih e => .tup h (ih (by simpa [noDict] using e)))
    (fun _ _ _ e => by simp [noDict] at e) (fun _ _ _ e => by simp [noDict] at e) (fun e => by simp [noDict] at e) (fun _ _ _ e => by simp [noDict] at e) (fun _ _ _ e => by simp [noDict] at e) (fun _ e => by simp [noDict] at e)
    (fun _ => .nil) (fun _ _ a b e => by simp [noDictA] at e; exact .cons (a e.1) (b e.2)) trivial (fun _ _ _ _ => trivial) trivial (fun _ _ _ _ => trivial) h
end
inductive Lc where
  | d (x : PD)
  | ls (p : Option Nat) (xs : List PD)
  | dk (p : Option Nat) (kvs : List (Key × PD))
  | dt (p : Option Nat) (kvs : List (List Key × PD))
  /-- an own instance of the class at C, its attributes -/
  | ob (p : Option Nat) (C : Addr) (fs : List (Str × PD))
  /-- a list that is only read: the script -/
  | sc (xs : List PD)
  /-- an own instance of the class at C: attributes that are data, and behind them own lists of its own, each with its address -/
  | nb (p : Option Nat) (C : Addr) (fs : List (Str × PD)) (ns : List (Str × Addr × List PD))
  /-- an own list of own lists of its own, each with its address -/
  | ln (p : Option Nat) (xs : List (Addr × List PD))
def Lc.fp : Lc → List (Addr × List PD)
  | .nb _ _ _ ns => ns.map (·.2)
  | .ln _ xs => xs
  | _ => []
abbrev En := List (Option Lc)
def Lc.own : Lc → Bool
  | .ls _ _ => true
  | .dk _ _ => true
  | .dt _ _ => true
  | .ob _ _ _ => true
  | .nb _ _ _ _ => true
  | .ln _ _ => true
  | _ => false
def Lc.tag : Lc → Option Nat
  | .ls p _ => p
  | .dk p _ => p
  | .dt p _ => p
  | .ob p _ _ => p
  | .nb p _ _ _ => p
  | .ln p _ => p
  | _ => none
def Lc.retag (q : Option Nat) : Lc → Lc
  | .ls _ xs => .ls q xs
  | .dk _ xs => .dk q xs
  | .dt _ xs => .dt q xs
  | .ob _ C fs => .ob q C fs
  | .nb _ C fs ns => .nb q C fs ns
  | .ln _ xs => .ln q xs
  | l => l
theorem Lc.retag_fp (q : Option Nat) (l : Lc) : (l.retag q).fp = l.fp := by cases l <;> rfl
def getN (f : Str) : List (Str × Addr × List PD) → Option (Addr × List PD)
  | [] => none
  | (g, z) :: r => if g = f then some z else getN f r
def noF (f : Str) : List (Str × PD) → Bool
  | [] => true
  | (g, _) :: r => !(decide (g = f)) && noF f r
theorem getN_mem {f : Str} {y : Addr × List PD} : ∀ {ns : List (Str × Addr × List PD)}, getN f ns = some y → (f, y) ∈ ns
  | (g, z) :: r, h => by
    unfold getN at h
    by_cases e : g = f
    · rw [if_pos e] at h; cases h; rw [e]; exact List.mem_cons_self
    · rw [if_neg e] at h; exact List.mem_cons_of_mem _ (getN_mem h)
theorem Lc.retag_own (q : Option Nat) (l : Lc) : (l.retag q).own = l.own := by cases l <;> rfl
theorem Lc.retag_tag (q : Option Nat) (l : Lc) (h : l.own = true) : (l.retag q).tag = q := by cases l <;> first | rfl | (simp [Lc.own] at h)
structure Gm where
  H0 : Hp
  F0 : Hp
  io : List Addr
  nio : List (Nat × Addr) := []
def Gm.pin (G : Gm) (p : Addr) (o : HO) : Gm := { G with H0 := fun b => if b = p then some o else G.H0 b }
class Pn where
  P : Gm → Prop
  pin : ∀ {G : Gm} {p : Addr} {o : HO}, P G → G.H0 p = none → G.F0 p = none → p ∉ G.io → (∀ us, o ≠ .tup us) → P (G.pin p o)
def Pn.any : Pn := ⟨fun _ => True, fun _ _ _ _ _ => trivial⟩
inductive Pins (G0 : Gm) : Gm → Prop
  | refl : Pins G0 G0
  | pin {G : Gm} {p : Addr} {o : HO} : Pins G0 G → G.H0 p = none → G.F0 p = none → p ∉ G.io → (∀ us, o ≠ .tup us) → Pins G0 (G.pin p o)
def Pn.at_ (G0 : Gm) : Pn := ⟨Pins G0, .pin⟩
def DKv {κ : Type} (K : PySem.W.Frag) (F : Hp) : List (κ × V) → List (κ × PD) → Prop := Paired fun p q => p.1 = q.1 ∧ Df K F p.2 q.2
def HoOk (K : PySem.W.Frag) (F : Hp) : Lc → HO → Prop
  | .ls _ xs, .lst vs => DfA K F vs xs
  | .dk _ kvs, .dK us => DKv K F us kvs
  | .dt _ kvs, .dT us => DKv K F us kvs
  | .ob _ C fs, .ins D _ us => C = D ∧ DKv K F us fs
  | .nb _ C fs ns, .ins D _ us => C = D ∧ (∃ u1, us = u1 ++ ns.map (fun n => (n.1, V.ref n.2.1)) ∧ DKv K F u1 fs) ∧ (ns.map (·.2.1)).Nodup
  | .ln _ xs, .lst vs => vs = xs.map (fun x => V.ref x.1) ∧ (xs.map (·.1)).Nodup
  | _, _ => False
theorem DKv.mono {κ : Type} {K : PySem.W.Frag} {F F' : Hp} (e : Same F F') {us : List (κ × V)} {kvs : List (κ × PD)} (h : DKv K F us kvs) : DKv K F' us kvs :=
  Paired.mapP h fun _ _ z => ⟨z.1, z.2.mono e⟩
theorem HoOk.mono {K : PySem.W.Frag} {F F' : Hp} {l : Lc} {o : HO} (e : Same F F') (h : HoOk K F l o) : HoOk K F' l o := by
  cases l <;> cases o <;> first | exact False.elim h | exact DfA.mono e h | exact DKv.mono e h | exact ⟨h.1, DKv.mono e h.2⟩ | exact ⟨h.1, ⟨h.2.1.choose, h.2.1.choose_spec.1, DKv.mono e h.2.1.choose_spec.2⟩, h.2.2⟩ | exact h
theorem HoOk.retag {K : PySem.W.Frag} {F : Hp} {l : Lc} {o : HO} (q : Option Nat) (h : HoOk K F l o) : HoOk K F (l.retag q) o := by
  cases l <;> cases o <;> first | exact False.elim h | exact h
theorem HoOk.own {K : PySem.W.Frag} {F : Hp} {l : Lc} {o : HO} (h : HoOk K F l o) : l.own = true := by
  cases l <;> cases o <;> first | exact False.elim h | rfl
def OwnP (G : Gm) : Option Nat → Addr → Prop
  | none, a => G.H0 a = none
  | some i, a => G.io[i]? = some a
structure At (K : PySem.W.Frag) (G : Gm) (F H : Hp) (l : Lc) (a : Addr) : Prop where
  nf : F a = none
  ow : OwnP G l.tag a
  ob : ∃ o, H a = some o ∧ HoOk K F l o
def ScOk (K : PySem.W.Frag) (F : Hp) (xs : List PD) (v : V) : Prop := ∃ a vs, v = .ref a ∧ SqL K F a vs ∧ DfA K F vs xs
theorem ScOk.mono {K : PySem.W.Frag} {F F' : Hp} {xs : List PD} {v : V} (e : Same F F') (h : ScOk K F xs v) : ScOk K F' xs v := by
  obtain ⟨a, vs, h1, h2, h3⟩ := h
  exact ⟨a, vs, h1, e.seq h2, h3.mono e⟩
def SlotOk (K : PySem.W.Frag) (G : Gm) (F H : Hp) : Lc → Option (Option V) → Prop
  | .d x, s => ∃ v, s = some (some v) ∧ Df K F v x
  | .sc xs, s => ∃ v, s = some (some v) ∧ ScOk K F xs v
  | l, s => ∃ a, s = some (some (.ref a)) ∧ At K G F H l a
structure Ns (K : PySem.W.Frag) (G : Gm) (F H : Hp) (t : Option Nat) (b : Addr) (xs : List PD) : Prop where
  nf : F b = none
  ow : G.H0 b = none ∨ ∃ k, t = some k ∧ (k, b) ∈ G.nio ∧ b ∈ G.io
  ob : ∃ vs, H b = some (.lst vs) ∧ DfA K F vs xs
def NoN (ρ : En) (p : Addr) : Prop := ∀ (j : Nat) (m : Lc) (ys : List PD), ρ[j]? = some (some m) → (p, ys) ∉ m.fp
def NoS (ρ : En) (σ : L2.St) (p : Addr) : Prop := ∀ (j : Nat) (m : Lc), ρ[j]? = some (some m) → m.own = true → σ[j]? ≠ some (some (.ref p))
structure Rel [Pn] (K : PySem.W.Frag) (G : Gm) (ρ : En) (F : Hp) (σ : L2.St) (H : Hp) : Prop where
  fh : Same F H
  ff : Same G.F0 F
  fr : ∀ b o, G.H0 b = some o → b ∉ G.io → H b = some o
  nw : ∀ b, F b ≠ none → G.F0 b = none → G.H0 b = none ∨ ∃ us, F b = some (.tup us)
  ih : ∀ a, a ∈ G.io → H a ≠ none ∧ G.H0 a ≠ none
  len : σ.length = ρ.length
  sl : ∀ (i : Nat) (l : Lc), ρ[i]? = some (some l) → SlotOk K G F H l σ[i]?
  ds : ∀ (i j : Nat) (l m : Lc) (v : V), ρ[i]? = some (some l) → ρ[j]? = some (some m) → l.own = true → m.own = true → σ[i]? = some (some v) → σ[j]? = some (some v) → i = j
  ok : Pn.P G
  ns : ∀ (i : Nat) (l : Lc) (b : Addr) (xs : List PD), ρ[i]? = some (some l) → (b, xs) ∈ l.fp → Ns K G F H l.tag b xs ∧ ∀ (j : Nat) (m : Lc), ρ[j]? = some (some m) → (m.own = true → σ[j]? ≠ some (some (.ref b))) ∧ ∀ ys, (b, ys) ∈ m.fp → j = i
structure Grow (F H F' H' : Hp) : Prop where
  ff : Same F F'
  hh : Same H H'
  fh : Same F' H'
  nw : ∀ b, F' b ≠ none → F b = none → H b = none ∨ ∃ us, F' b = some (.tup us)
section
variable {K : PySem.W.Frag} {G : Gm} {ρ : En} {F F' H H' F1 H1 : Hp} {σ : L2.St} {i j : Nat} {l m : Lc} {a p : Addr} {v : V} {x : PD} {o : HO}
theorem Grow.refl (h : Same F H) : Grow F H F H := ⟨Same.refl _, Same.refl _, h, fun b h1 h2 => absurd h2 h1⟩
theorem Grow.trans (g : Grow F H F1 H1) (k : Grow F1 H1 F' H') : Grow F H F' H' := by
  refine ⟨g.ff.trans k.ff, g.hh.trans k.hh, k.fh, fun b h1 h2 => ?_⟩
  cases e : F1 b with
  | none =>
    rcases k.nw b h1 e with z | z
    · exact .inl (g.hh.free z)
    · exact .inr z
  | some u =>
    rcases g.nw b (by rw [e]; simp) h2 with z | ⟨us, z⟩
    · exact .inl z
    · exact .inr ⟨us, k.ff _ _ z⟩
theorem same_new (h : H p = none) (o : HO) : Same H (upd H p o) := fun b u q => by rw [upd_ne (ne_of_none q h)]; exact q
theorem Grow.frozen (h : Same F H) (hp : H p = none) (o : HO) : Grow F H (upd F p o) (upd H p o) := by
  refine ⟨same_new (h.free hp) o, same_new hp o, fun b u e => ?_, fun b h1 h2 => ?_⟩
  · by_cases hb : b = p
    · subst hb; rw [upd_same] at e ⊢; exact e
    · rw [upd_ne hb] at e ⊢; exact h _ _ e
  · by_cases hb : b = p
    · subst hb; exact .inl hp
    · rw [upd_ne hb] at h1; exact absurd h2 h1
theorem Grow.owned (h : Same F H) (hp : H p = none) (o : HO) : Grow F H F (upd H p o) :=
  ⟨Same.refl _, same_new hp o, h.trans (same_new hp o), fun b h1 h2 => absurd h2 h1⟩
theorem own_slot (h : l.own = true) {s : Option (Option V)} : SlotOk K G F H l s ↔ ∃ a, s = some (some (.ref a)) ∧ At K G F H l a := by
  cases l <;> first | exact Iff.rfl | (simp [Lc.own] at h)
theorem not_own (h : l.own = false) : (∃ x, l = .d x) ∨ ∃ x, l = .sc x := by
  cases l with
  | d x => exact .inl ⟨x, rfl⟩
  | sc v => exact .inr ⟨v, rfl⟩
  | ls p xs => simp [Lc.own] at h
  | dk p xs => simp [Lc.own] at h
  | dt p xs => simp [Lc.own] at h
  | ob p C fs => simp [Lc.own] at h
  | nb p C fs ns => simp [Lc.own] at h
  | ln p xs => simp [Lc.own] at h
theorem Lc.fp_own (h : l.own = false) : l.fp = [] := by cases l <;> first | rfl | (simp [Lc.own] at h)
theorem SlotOk.some {s : Option (Option V)} (h : SlotOk K G F H l s) : ∃ v, s = some (some v) := by
  cases l with
  | d x => obtain ⟨v, e, _⟩ := h; exact ⟨v, e⟩
  | sc xs => obtain ⟨v, e, _⟩ := h; exact ⟨v, e⟩
  | ls p xs => obtain ⟨a, e, _⟩ := h; exact ⟨_, e⟩
  | dk p xs => obtain ⟨a, e, _⟩ := h; exact ⟨_, e⟩
  | dt p xs => obtain ⟨a, e, _⟩ := h; exact ⟨_, e⟩
  | ob p C fs => obtain ⟨a, e, _⟩ := h; exact ⟨_, e⟩
  | nb p C fs ns => obtain ⟨a, e, _⟩ := h; exact ⟨_, e⟩
  | ln p xs => obtain ⟨a, e, _⟩ := h; exact ⟨_, e⟩
theorem At.grow (h : At K G F H l a) (g : Grow F H F' H') : At K G F' H' l a := by
  obtain ⟨nf, ow, ob, e, ok⟩ := h
  refine ⟨?_, ow, ob, g.hh _ _ e, ok.mono g.ff⟩
  cases q : F' a with
  | none => rfl
  | some u =>
    rcases g.nw a (by rw [q]; simp) nf with z | ⟨us, z⟩
    · rw [e] at z; cases z
    · have z := g.fh _ _ z
      rw [g.hh _ _ e] at z
      cases z
      cases l <;> exact False.elim ok
theorem Ns.grow {t : Option Nat} {b : Addr} {xs : List PD} (h : Ns K G F H t b xs) (g : Grow F H F' H') : Ns K G F' H' t b xs := by
  obtain ⟨nf, ow, vs, e, ok⟩ := h
  refine ⟨?_, ow, vs, g.hh _ _ e, ok.mono g.ff⟩
  cases q : F' b with
  | none => rfl
  | some u =>
    rcases g.nw b (by rw [q]; simp) nf with z | ⟨us, z⟩
    · rw [e] at z; cases z
    · have z := g.fh _ _ z
      rw [g.hh _ _ e] at z
      cases z
theorem SlotOk.grow {s : Option (Option V)} (h : SlotOk K G F H l s) (g : Grow F H F' H') : SlotOk K G F' H' l s := by
  cases hl : l.own with
  | true => rw [own_slot hl] at h ⊢; obtain ⟨a, e, z⟩ := h; exact ⟨a, e, z.grow g⟩
  | false =>
    rcases not_own hl with ⟨x, rfl⟩ | ⟨v, rfl⟩
    · obtain ⟨v, e, z⟩ := h; exact ⟨v, e, z.mono g.ff⟩
    · obtain ⟨v, e, z⟩ := h; exact ⟨v, e, z.mono g.ff⟩
theorem Rel.h0 [Pn] (R : Rel K G ρ F σ H) (h : H p = none) : G.H0 p = none := by
  cases e : G.H0 p with
  | none => rfl
  | some u =>
    by_cases hp : p ∈ G.io
    · exact absurd h (R.ih p hp).1
    · have := R.fr p u e hp; rw [h] at this; cases this
theorem Rel.grow [Pn] (R : Rel K G ρ F σ H) (g : Grow F H F' H') : Rel K G ρ F' σ H' := by
  refine ⟨g.fh, R.ff.trans g.ff, fun b o e hb => g.hh _ _ (R.fr b o e hb), fun b h1 h2 => ?_, fun a ha => ?_, R.len, fun i l e => (R.sl i l e).grow g, R.ds, R.ok, fun i l b xs e h => ⟨(R.ns i l b xs e h).1.grow g, (R.ns i l b xs e h).2⟩⟩
  · cases e : F b with
    | none =>
      rcases g.nw b h1 e with z | z
      · exact .inl (R.h0 z)
      · exact .inr z
    | some u =>
      rcases R.nw b (by rw [e]; simp) h2 with z | ⟨us, z⟩
      · exact .inl z
      · exact .inr ⟨us, g.ff _ _ z⟩
  · refine ⟨?_, (R.ih a ha).2⟩
    cases e : H a with
    | none => exact absurd e (R.ih a ha).1
    | some u => rw [g.hh _ _ e]; simp
theorem set_get {α : Type} {xs : List α} {i j : Nat} {y z : α} (h : (xs.set i y)[j]? = some z) : (j = i ∧ i < xs.length ∧ z = y) ∨ (j ≠ i ∧ xs[j]? = some z) := by
  by_cases hj : j = i
  · subst hj
    by_cases hl : j < xs.length
    · rw [List.getElem?_set_self hl] at h; cases h; exact .inl ⟨rfl, hl, rfl⟩
    · rw [List.getElem?_eq_none (by rw [List.length_set]; omega)] at h; cases h
  · rw [List.getElem?_set_ne (Ne.symm hj)] at h; exact .inr ⟨hj, h⟩
def NsR (K : PySem.W.Frag) (G : Gm) (F H : Hp) (ρ : En) (σ : L2.St) (l : Lc) (v : V) : Prop := ∀ (b : Addr) (xs : List PD), (b, xs) ∈ l.fp → Ns K G F H l.tag b xs ∧ v ≠ .ref b ∧ NoS ρ σ b ∧ NoN ρ b
theorem NsR.nil {v : V} (h : l.fp = []) : NsR K G F H ρ σ l v := fun b xs z => by rw [h] at z; cases z
theorem Rel.store [Pn] (R : Rel K G ρ F σ H) (i : Nat) (h : SlotOk K G F H l (some (some v))) (hf : l.own = true → ∀ (j : Nat) (m : Lc), ρ[j]? = some (some m) → m.own = true → σ[j]? ≠ some (some v)) (hn : l.own = true → (∀ a, v = .ref a → NoN ρ a) ∧ NsR K G F H ρ σ l v) :
    Rel K G (ρ.set i (some l)) F (σ.set i (some v)) H := by
  have hfp : ∀ b xs, (b, xs) ∈ l.fp → l.own = true := fun b xs z => by
    cases ho : l.own with
    | true => rfl
    | false => rw [Lc.fp_own ho] at z; cases z
  refine ⟨R.fh, R.ff, R.fr, R.nw, R.ih, by rw [List.length_set, List.length_set]; exact R.len, fun j m e => ?_, fun j k m n u e1 e2 h1 h2 e3 e4 => ?_, R.ok, fun j m b xs e hb => ?_⟩
  · rcases set_get e with ⟨rfl, hl, z⟩ | ⟨hj, e⟩
    · cases z; rw [List.getElem?_set_self (by rw [R.len]; exact hl)]; exact h
    · rw [List.getElem?_set_ne (Ne.symm hj)]; exact R.sl j m e
  · rcases set_get e1 with ⟨rfl, hl, z⟩ | ⟨hj, e1'⟩
    · rcases set_get e2 with ⟨rfl, hl', z'⟩ | ⟨hk, e2'⟩
      · rfl
      · cases z
        rw [List.getElem?_set_self (by rw [R.len]; exact hl)] at e3
        rw [List.getElem?_set_ne (Ne.symm hk)] at e4
        have : v = u := by simpa using e3
        subst this
        exact absurd e4 (hf h1 k n e2' h2)
    · rcases set_get e2 with ⟨rfl, hl', z'⟩ | ⟨hk, e2'⟩
      · cases z'
        rw [List.getElem?_set_self (by rw [R.len]; exact hl')] at e4
        rw [List.getElem?_set_ne (Ne.symm hj)] at e3
        have : v = u := by simpa using e4
        subst this
        exact absurd e3 (hf h2 j m e1' h1)
      · rw [List.getElem?_set_ne (Ne.symm hj)] at e3
        rw [List.getElem?_set_ne (Ne.symm hk)] at e4
        exact R.ds j k m n u e1' e2' h1 h2 e3 e4
  · rcases set_get e with ⟨rfl, hl, z⟩ | ⟨hj, eo⟩
    · cases z
      obtain ⟨n1, n2, n3, n4⟩ := (hn (hfp b xs hb)).2 b xs hb
      refine ⟨n1, fun k n e2 => ?_⟩
      rcases set_get e2 with ⟨rfl, hl', z'⟩ | ⟨hk, e2'⟩
      · cases z'
        rw [List.getElem?_set_self (by rw [R.len]; exact hl)]
        exact ⟨fun _ q => n2 (by simpa using q), fun _ _ => rfl⟩
      · rw [List.getElem?_set_ne (Ne.symm hk)]
        exact ⟨n3 k n e2', fun ys q => absurd q (n4 k n ys e2')⟩
    · obtain ⟨n1, n2⟩ := R.ns j m b xs eo hb
      refine ⟨n1, fun k n e2 => ?_⟩
      rcases set_get e2 with ⟨rfl, hl', z'⟩ | ⟨hk, e2'⟩
      · cases z'
        rw [List.getElem?_set_self (by rw [R.len]; exact hl')]
        refine ⟨fun ho q => ?_, fun ys q => ?_⟩
        · have q : v = .ref b := by simpa using q
          exact (hn ho).1 b q j m xs eo hb
        · exact absurd hb (((hn (hfp b ys q)).2 b ys q).2.2.2 j m xs eo)
      · rw [List.getElem?_set_ne (Ne.symm hk)]
        exact n2 k n e2'
theorem Rel.store_d [Pn] (R : Rel K G ρ F σ H) (i : Nat) (h : Df K F v x) : Rel K G (ρ.set i (some (.d x))) F (σ.set i (some v)) H :=
  R.store i ⟨v, rfl, h⟩ (fun z => by cases z) fun z => by cases z
theorem Rel.weak [Pn] (R : Rel K G ρ F σ H) {ρ' : En} {σ' : L2.St} (hl : σ'.length = ρ'.length) (w : ∀ (i : Nat) (l : Lc), ρ'[i]? = some (some l) → ρ[i]? = some (some l) ∧ σ'[i]? = σ[i]?) : Rel K G ρ' F σ' H := by
  refine ⟨R.fh, R.ff, R.fr, R.nw, R.ih, hl, fun i l e => ?_, fun i j l m v e1 e2 h1 h2 e3 e4 => ?_, R.ok, fun i l b xs e hb => ⟨(R.ns i l b xs (w i l e).1 hb).1, fun j m e2 => by rw [(w j m e2).2]; exact (R.ns i l b xs (w i l e).1 hb).2 j m (w j m e2).1⟩⟩
  · obtain ⟨a, b⟩ := w i l e; rw [b]; exact R.sl i l a
  · obtain ⟨a, b⟩ := w i l e1
    obtain ⟨a', b'⟩ := w j m e2
    rw [b] at e3; rw [b'] at e4
    exact R.ds i j l m v a a' h1 h2 e3 e4
theorem Rel.drop [Pn] (R : Rel K G ρ F σ H) (i : Nat) : Rel K G (ρ.set i none) F σ H := by
  refine R.weak (by rw [List.length_set]; exact R.len) fun j l e => ?_
  rcases set_get e with ⟨_, _, z⟩ | ⟨_, e⟩
  · cases z
  · exact ⟨e, rfl⟩
theorem Rel.at_ [Pn] (R : Rel K G ρ F σ H) (e : ρ[i]? = some (some l)) (h : l.own = true) : ∃ a, σ[i]? = some (some (.ref a)) ∧ At K G F H l a := (own_slot h).mp (R.sl i l e)
theorem Rel.noN_free [Pn] (R : Rel K G ρ F σ H) (h : H p = none) : NoN ρ p := fun j m ys e z => by
  obtain ⟨vs, e1, _⟩ := (R.ns j m p ys e z).1.ob
  rw [h] at e1; cases e1
theorem Rel.noS_free [Pn] (R : Rel K G ρ F σ H) (h : H p = none) : NoS ρ σ p := fun j m e hm z => by
  obtain ⟨a, e1, _, _, ob, eo, _⟩ := R.at_ e hm
  rw [z] at e1
  have : p = a := by simpa using e1
  subst this
  rw [h] at eo; cases eo
theorem Rel.noN_at [Pn] (R : Rel K G ρ F σ H) (e : ρ[i]? = some (some l)) (ho : l.own = true) (es : σ[i]? = some (some (.ref a))) : NoN ρ a := fun j m ys q z => ((R.ns j m a ys q z).2 i l e).1 ho es
theorem NoN.sub {ρ' : En} (h : NoN ρ p) (w : ∀ (j : Nat) (m : Lc), ρ'[j]? = some (some m) → ρ[j]? = some (some m)) : NoN ρ' p := fun j m ys e => h j m ys (w j m e)
theorem NoN.drop (h : NoN ρ p) (i : Nat) : NoN (ρ.set i none) p := h.sub fun j m e => by
  rcases set_get e with ⟨_, _, z⟩ | ⟨_, e⟩
  · cases z
  · exact e
theorem At.pin (h : At K G F H l a) (hp : a ≠ p) (o : HO) : At K (G.pin p o) F H l a := by
  refine ⟨h.nf, ?_, h.ob⟩
  have ow := h.ow
  cases e : l.tag with
  | none =>
    rw [e] at ow
    show (if a = p then some o else G.H0 a) = none
    rw [if_neg hp]; exact ow
  | some k => rw [e] at ow; exact ow
theorem Rel.pin [Pn] (R : Rel K G ρ F σ H) (hF : F p = none) (hH : H p = some o) (h0 : G.H0 p = none) (hf : ∀ (j : Nat) (m : Lc), ρ[j]? = some (some m) → m.own = true → σ[j]? ≠ some (some (.ref p))) (hn : NoN ρ p) (no : ∀ us, o ≠ .tup us := by intro _ h; cases h) : Rel K (G.pin p o) ρ F σ H := by
  refine ⟨R.fh, R.ff, fun b u e hb => ?_, fun b h1 h2 => ?_, fun a ha => ⟨(R.ih a ha).1, ?_⟩, R.len, fun i l e => ?_, R.ds, Pn.pin R.ok h0 (R.ff.free hF) (fun z => (R.ih p z).2 h0) no, fun i l b xs e hb => ⟨⟨(R.ns i l b xs e hb).1.nf, ?_, (R.ns i l b xs e hb).1.ob⟩, (R.ns i l b xs e hb).2⟩⟩
  · have e : (if b = p then some o else G.H0 b) = some u := e
    by_cases hbp : b = p
    · subst hbp; rw [if_pos rfl] at e; cases e; exact hH
    · rw [if_neg hbp] at e; exact R.fr b u e hb
  · show (if b = p then some o else G.H0 b) = none ∨ _
    have hbp : b ≠ p := fun z => h1 (by rw [z]; exact hF)
    rw [if_neg hbp]; exact R.nw b h1 h2
  · show (if a = p then some o else G.H0 a) ≠ none
    have := (R.ih a ha).2
    by_cases hap : a = p
    · rw [if_pos hap]; simp
    · rw [if_neg hap]; exact this
  · have z := R.sl i l e
    cases hl : l.own with
    | true =>
      rw [own_slot hl] at z ⊢
      obtain ⟨c, e1, z⟩ := z
      exact ⟨c, e1, z.pin (fun q => hf i l e hl (by rw [e1, q])) o⟩
    | false =>
      rcases not_own hl with ⟨x, rfl⟩ | ⟨v, rfl⟩
      · exact z
      · exact z
  · show (if b = p then some o else G.H0 b) = none ∨ ∃ k, l.tag = some k ∧ (k, b) ∈ G.nio ∧ b ∈ G.io
    have hbp : b ≠ p := fun z => hn i l xs e (by rw [← z]; exact hb)
    rw [if_neg hbp]; exact (R.ns i l b xs e hb).1.ow
theorem Rel.unpinN [Pn] (R : Rel K (G.pin p o) ρ F σ H) (hio : p ∉ G.io) : NoN ρ p := fun j m ys e z => by
  rcases (R.ns j m p ys e z).1.ow with w | w
  · have w : (if p = p then some o else G.H0 p) = none := w
    rw [if_pos rfl] at w; cases w
  · obtain ⟨_, _, _, w⟩ := w; exact hio w
theorem Rel.unpin [Pn] (ok : Pn.P G) (R : Rel K (G.pin p o) ρ F σ H) (h0 : G.H0 p = none) (f0 : G.F0 p = none) (hio : p ∉ G.io) (no : ∀ us, o ≠ .tup us := by intro _ h; cases h) :
    Rel K G ρ F σ H ∧ F p = none ∧ H p = some o ∧ ∀ (j : Nat) (m : Lc), ρ[j]? = some (some m) → m.own = true → σ[j]? ≠ some (some (.ref p)) := by
  have hp : (G.pin p o).H0 p = some o := if_pos rfl
  have nt : ∀ {l : Lc} {a : Addr}, At K (G.pin p o) F H l a → a ≠ p := fun {l a} z q => by
    subst q
    have ow := z.ow
    cases e : l.tag with
    | none => rw [e] at ow; have ow : (G.pin a o).H0 a = none := ow; rw [hp] at ow; cases ow
    | some k => rw [e] at ow; exact hio (List.mem_of_getElem? ow)
  have ne : ∀ (j : Nat) (m : Lc), ρ[j]? = some (some m) → m.own = true → σ[j]? ≠ some (some (.ref p)) := fun j m e hm z => by
    obtain ⟨a, e1, q⟩ := R.at_ e hm
    rw [z] at e1
    have : p = a := by simpa using e1
    exact nt q this.symm
  have fp : F p = none := by
    cases e : F p with
    | none => rfl
    | some u =>
      rcases R.nw p (by rw [e]; simp) f0 with z | ⟨us, z⟩
      · rw [hp] at z; cases z
      · have z := R.fh _ _ z
        rw [R.fr p o hp hio] at z
        cases z
        exact absurd rfl (no us)
  refine ⟨⟨R.fh, R.ff, fun b u e hb => ?_, fun b h1 h2 => ?_, fun a ha => ⟨(R.ih a ha).1, ?_⟩, R.len, fun i l e => ?_, R.ds, ok, fun i l b xs e hb => ⟨⟨(R.ns i l b xs e hb).1.nf, ?_, (R.ns i l b xs e hb).1.ob⟩, (R.ns i l b xs e hb).2⟩⟩, fp, R.fr p o hp hio, ne⟩
  · refine R.fr b u ?_ hb
    show (if b = p then some o else G.H0 b) = some u
    rw [if_neg (fun z => by rw [z, h0] at e; cases e)]; exact e
  · rcases R.nw b h1 h2 with this | this
    · have this : (if b = p then some o else G.H0 b) = none := this
      by_cases hbp : b = p
      · rw [hbp]; exact .inl h0
      · rw [if_neg hbp] at this; exact .inl this
    · exact .inr this
  · have := (R.ih a ha).2
    have this : (if a = p then some o else G.H0 a) ≠ none := this
    have hap : a ≠ p := fun z => hio (by rw [← z]; exact ha)
    rw [if_neg hap] at this; exact this
  · have z := R.sl i l e
    cases hl : l.own with
    | true =>
      rw [own_slot hl] at z ⊢
      obtain ⟨c, e1, z⟩ := z
      have hc := nt z
      refine ⟨c, e1, z.nf, ?_, z.ob⟩
      have ow := z.ow
      cases q : l.tag with
      | none =>
        rw [q] at ow
        have ow : (if c = p then some o else G.H0 c) = none := ow
        rw [if_neg hc] at ow; exact ow
      | some k => rw [q] at ow; exact ow
    | false =>
      rcases not_own hl with ⟨x, rfl⟩ | ⟨v, rfl⟩
      · exact z
      · exact z
  · have hbp : b ≠ p := fun z => R.unpinN hio i l xs e (by rw [← z]; exact hb)
    rcases (R.ns i l b xs e hb).1.ow with w | w
    · have w : (if b = p then some o else G.H0 b) = none := w
      rw [if_neg hbp] at w; exact .inl w
    · exact .inr w
theorem HoOk.fp_nodup (ok : HoOk K F l o) : (l.fp.map (·.1)).Nodup := by
  cases l <;> first | exact List.nodup_nil | skip
  · cases o <;> first | exact False.elim ok | skip
    have := ok.2.2
    show ((List.map _ _).map _).Nodup
    rw [List.map_map]; exact this
  · cases o <;> first | exact False.elim ok | exact ok.2
def Gm.pins (G : Gm) : List (Addr × HO) → Gm
  | [] => G
  | p :: r => (G.pin p.1 p.2).pins r
theorem Gm.pin_ne {q : Addr} (h : q ≠ p) : (G.pin p o).H0 q = G.H0 q := if_neg h
theorem Rel.pins [Pn] : ∀ {L : List (Addr × HO)} {G : Gm}, (L.map (·.1)).Nodup → (∀ q ∈ L, F q.1 = none ∧ H q.1 = some q.2 ∧ G.H0 q.1 = none ∧ NoS ρ σ q.1 ∧ NoN ρ q.1 ∧ ∀ us, q.2 ≠ .tup us) → Rel K G ρ F σ H → Rel K (G.pins L) ρ F σ H
  | [], G, _, _, R => R
  | q :: r, G, nd, h, R => by
    rw [List.map_cons, List.nodup_cons] at nd
    obtain ⟨h1, h2, h3, h4, h5, h6⟩ := h q List.mem_cons_self
    refine Rel.pins (L := r) (G := G.pin q.1 q.2) nd.2 (fun z hz => ?_) (R.pin h1 h2 h3 h4 h5 h6)
    obtain ⟨g1, g2, g3, g4, g5, g6⟩ := h z (List.mem_cons_of_mem _ hz)
    exact ⟨g1, g2, by rw [Gm.pin_ne fun e => nd.1 (by rw [← e]; exact List.mem_map_of_mem hz)]; exact g3, g4, g5, g6⟩
theorem Rel.unpins [Pn] : ∀ {L : List (Addr × HO)} {G : Gm}, Pn.P G → (L.map (·.1)).Nodup → (∀ q ∈ L, G.H0 q.1 = none ∧ G.F0 q.1 = none ∧ q.1 ∉ G.io ∧ ∀ us, q.2 ≠ .tup us) → Rel K (G.pins L) ρ F σ H →
    Rel K G ρ F σ H ∧ ∀ q ∈ L, F q.1 = none ∧ H q.1 = some q.2 ∧ NoS ρ σ q.1 ∧ NoN ρ q.1
  | [], G, _, _, _, R => ⟨R, fun _ z => absurd z List.not_mem_nil⟩
  | q :: r, G, ok, nd, h, R => by
    rw [List.map_cons, List.nodup_cons] at nd
    obtain ⟨h1, h2, h3, h4⟩ := h q List.mem_cons_self
    obtain ⟨R1, w⟩ := Rel.unpins (L := r) (G := G.pin q.1 q.2) (Pn.pin ok h1 h2 h3 h4) nd.2 (fun z hz => by
      obtain ⟨g1, g2, g3, g4⟩ := h z (List.mem_cons_of_mem _ hz)
      exact ⟨by rw [Gm.pin_ne fun e => nd.1 (by rw [← e]; exact List.mem_map_of_mem hz)]; exact g1, g2, g3, g4⟩) R
    obtain ⟨R2, f1, f2, f3⟩ := R1.unpin ok h1 h2 h3 h4
    refine ⟨R2, fun z hz => ?_⟩
    rcases List.mem_cons.mp hz with rfl | hz
    · exact ⟨f1, f2, f3, R1.unpinN h3⟩
    · exact w z hz
def Lc.pd : Lc → PD
  | .d x => x
  | .ls _ xs => .list xs
  | .dk _ kvs => .dict (kvs.map fun p => (keyD p.1, p.2))
  | .ob _ C fs => .dict ((.none, .int (C : Int)) :: fs.map fun p => (.str p.1, p.2))
  | _ => .none
def Lc.fz : Lc → Bool
  | .d _ => true
  | .ls none _ => true
  | .dk none _ => true
  | .ob none _ _ => true
  | _ => false
theorem DKv.dfk {us : List (Key × V)} {kvs : List (Key × PD)} (h : DKv K F us kvs) : DfK K F us (kvs.map fun p => (keyD p.1, p.2)) := by
  induction us generalizing kvs with
  | nil => cases h; exact .nil
  | cons u us ih =>
    cases h with
    | cons a b =>
      obtain ⟨k, v⟩ := u
      obtain ⟨a1, a2⟩ := a
      rename_i q r
      obtain ⟨k', d⟩ := q
      have : k = k' := a1
      subst this
      exact .cons a2 (ih b)
theorem DKv.dff {us : List (Str × V)} {fs : List (Str × PD)} (h : DKv K F us fs) : DfF K F us (fs.map fun p => (.str p.1, p.2)) := by
  induction us generalizing fs with
  | nil => cases h; exact .nil
  | cons u us ih =>
    cases h with
    | cons a b =>
      obtain ⟨k, v⟩ := u
      obtain ⟨a1, a2⟩ := a
      rename_i q r
      obtain ⟨k', d⟩ := q
      have : k = k' := a1
      subst this
      exact .cons a2 (ih b)
theorem HoOk.df (ok : HoOk K F l o) (hz : l.fz = true) (e : H a = some o) (s : Same F H) : Df K H (.ref a) l.pd := by
  cases l with
  | d x => cases o <;> exact False.elim ok
  | sc v => cases o <;> exact False.elim ok
  | ls p xs =>
    cases o with
    | lst vs => exact .lst (.inl e) (DfA.mono s ok)
    | _ => exact False.elim ok
  | dk p xs =>
    cases o with
    | dK vs => exact .dk (.inl e) ((DKv.mono s ok).dfk)
    | _ => exact False.elim ok
  | dt p xs => cases p <;> simp [Lc.fz] at hz
  | ob p C fs =>
    cases o with
    | ins D dx us =>
      obtain ⟨rfl, h⟩ := ok
      exact .ins e ((DKv.mono s h).dff)
    | _ => exact False.elim ok
  | nb p C fs ns => simp [Lc.fz] at hz
  | ln p xs => simp [Lc.fz] at hz
theorem Rel.freeze [Pn] (R : Rel K G ρ F σ H) (nf : F a = none) (n0 : G.H0 a = none) (e : H a = some o) (hf : ∀ (j : Nat) (m : Lc), ρ[j]? = some (some m) → m.own = true → σ[j]? ≠ some (some (.ref a))) (hn : NoN ρ a) : Rel K G ρ (upd F a o) σ H ∧ Same F (upd F a o) := by
  have sf : Same F (upd F a o) := same_new nf o
  refine ⟨⟨fun b u q => ?_, R.ff.trans sf, R.fr, fun b h1 h2 => ?_, R.ih, R.len, fun j m q => ?_, R.ds, R.ok, fun i l b xs q hb => ⟨⟨?_, (R.ns i l b xs q hb).1.ow, ?_⟩, (R.ns i l b xs q hb).2⟩⟩, sf⟩
  · by_cases hb : b = a
    · subst hb; rw [upd_same] at q; cases q; exact e
    · rw [upd_ne hb] at q; exact R.fh _ _ q
  · by_cases hb : b = a
    · subst hb; exact .inl n0
    · rw [upd_ne hb] at h1
      rw [upd_ne hb]; exact R.nw b h1 h2
  · have z := R.sl j m q
    cases hm : m.own with
    | true =>
      rw [own_slot hm] at z ⊢
      obtain ⟨c, e1, h1, h2, ob, h3, h4⟩ := z
      have hc : c ≠ a := fun q' => hf j m q hm (by rw [e1, q'])
      exact ⟨c, e1, by rw [upd_ne hc]; exact h1, h2, ob, h3, h4.mono sf⟩
    | false =>
      rcases not_own hm with ⟨x, rfl⟩ | ⟨v, rfl⟩
      · obtain ⟨v, e1, h1⟩ := z; exact ⟨v, e1, h1.mono sf⟩
      · obtain ⟨v, e1, h1⟩ := z; exact ⟨v, e1, h1.mono sf⟩
  · have hba : b ≠ a := fun z => hn i l xs q (by rw [← z]; exact hb)
    rw [upd_ne hba]; exact (R.ns i l b xs q hb).1.nf
  · obtain ⟨vs, e1, h1⟩ := (R.ns i l b xs q hb).1.ob
    exact ⟨vs, e1, h1.mono sf⟩
theorem Rel.freeze_slot [Pn] (R : Rel K G ρ F σ H) (e : ρ[i]? = some (some l)) (ho : l.own = true) (hz : l.fz = true) :
    ∃ F' a, Rel K G (ρ.set i (some (.d l.pd))) F' σ H ∧ Same F F' ∧ σ[i]? = some (some (.ref a)) ∧ Df K F' (.ref a) l.pd := by
  obtain ⟨a, es, nf, ow, ob, eo, ok⟩ := R.at_ e ho
  have n0 : G.H0 a = none := by
    cases l with
    | d x => simp [Lc.own] at ho
    | sc x => simp [Lc.own] at ho
    | ls p xs => cases p <;> first | exact ow | (simp [Lc.fz] at hz)
    | dk p xs => cases p <;> first | exact ow | (simp [Lc.fz] at hz)
    | dt p xs => cases p <;> first | exact ow | (simp [Lc.fz] at hz)
    | ob p C xs => cases p <;> first | exact ow | (simp [Lc.fz] at hz)
    | nb p C fs ns => simp [Lc.fz] at hz
    | ln p xs => simp [Lc.fz] at hz
  have R1 : Rel K G (ρ.set i none) F σ H := R.drop i
  obtain ⟨R2, sf⟩ := R1.freeze nf n0 eo (fun j m q hm z => by
    rcases set_get q with ⟨_, _, w⟩ | ⟨hj, q⟩
    · cases w
    · exact hj (R.ds j i m l _ q e hm ho z es)) ((R.noN_at e ho es).drop i)
  have hd : Df K (upd F a ob) (.ref a) l.pd := ok.df hz upd_same sf
  have hi : i < ρ.length := (List.getElem?_eq_some_iff.mp e).1
  have hσ : i < σ.length := by rw [R.len]; exact hi
  have R3 := R2.store_d i hd
  have e1 : (ρ.set i none).set i (some (.d l.pd)) = ρ.set i (some (.d l.pd)) := by rw [List.set_set]
  have e2 : σ.set i (some (.ref a)) = σ := by
    apply List.ext_getElem?
    intro j
    by_cases hj : i = j
    · subst hj; rw [List.getElem?_set_self hσ, es]
    · rw [List.getElem?_set_ne hj]
  rw [e1, e2] at R3
  exact ⟨_, a, R3, sf, es, hd⟩
theorem Rel.write [Pn] (R : Rel K G ρ F σ H) (e : ρ[i]? = some (some l)) (ho : l.own = true) (es : σ[i]? = some (some (.ref a))) (ok : HoOk K F m o) (ht : m.tag = l.tag) (hfp : m.fp = l.fp := by rfl) :
    Rel K G (ρ.set i (some m)) F σ (upd H a o) := by
  obtain ⟨a', es', nf, ow, ob, eo, _⟩ := R.at_ e ho
  rw [es] at es'
  have : a = a' := by simpa using es'
  subst this
  have hi : i < ρ.length := (List.getElem?_eq_some_iff.mp e).1
  have ne : ∀ (j : Nat) (n : Lc), ρ[j]? = some (some n) → n.own = true → j ≠ i → σ[j]? ≠ some (some (.ref a)) := fun j n q hn hj z => hj (R.ds j i n l _ q e hn ho z es)
  refine ⟨fun b u q => ?_, R.ff, fun b u q hb => ?_, R.nw, fun b hb => ?_, by rw [List.length_set]; exact R.len, fun j n q => ?_, fun j k n r u q1 q2 h1 h2 q3 q4 => ?_, R.ok, fun j n b xs q hb => ?_⟩
  · rw [upd_ne (ne_of_none q nf)]; exact R.fh _ _ q
  · have : b ≠ a := by
      rintro rfl
      have ow' : OwnP G l.tag b := ow
      cases ht' : l.tag with
      | none => rw [ht'] at ow'; have ow' : G.H0 b = none := ow'; rw [q] at ow'; cases ow'
      | some k => rw [ht'] at ow'; exact hb (List.mem_of_getElem? ow')
    rw [upd_ne this]; exact R.fr b u q hb
  · refine ⟨?_, (R.ih b hb).2⟩
    by_cases hb' : b = a
    · subst hb'; rw [upd_same]; simp
    · rw [upd_ne hb']; exact (R.ih b hb).1
  · rcases set_get q with ⟨rfl, _, z⟩ | ⟨hj, q⟩
    · cases z
      rw [own_slot ok.own]
      exact ⟨a, es, nf, by rw [ht]; exact ow, o, upd_same, ok⟩
    · have z := R.sl j n q
      cases hn : n.own with
      | true =>
        rw [own_slot hn] at z ⊢
        obtain ⟨c, e1, h1, h2, u, h3, h4⟩ := z
        have hc : c ≠ a := fun w => ne j n q hn hj (by rw [e1, w])
        exact ⟨c, e1, h1, h2, u, by rw [upd_ne hc]; exact h3, h4⟩
      | false =>
        rcases not_own hn with ⟨x, rfl⟩ | ⟨v, rfl⟩
        · exact z
        · exact z
  · have old : ∀ {j : Nat} {n : Lc}, (ρ.set i (some m))[j]? = some (some n) → n.own = true → ∃ n', ρ[j]? = some (some n') ∧ n'.own = true := fun {j n} q hn => by
      rcases set_get q with ⟨rfl, _, z⟩ | ⟨hj, q⟩
      · exact ⟨l, e, ho⟩
      · exact ⟨n, q, hn⟩
    obtain ⟨n', q1', h1'⟩ := old q1 h1
    obtain ⟨r', q2', h2'⟩ := old q2 h2
    exact R.ds j k n' r' u q1' q2' h1' h2' q3 q4
  · have old : ∀ {j : Nat} {n : Lc}, (ρ.set i (some m))[j]? = some (some n) → ∃ n', ρ[j]? = some (some n') ∧ n'.fp = n.fp ∧ (n.own = true → n'.own = true) := fun {j n} q => by
      rcases set_get q with ⟨rfl, _, z⟩ | ⟨hj, q⟩
      · cases z; exact ⟨l, e, hfp.symm, fun _ => ho⟩
      · exact ⟨n, q, rfl, id⟩
    obtain ⟨n', q', f', _⟩ := old q
    obtain ⟨⟨z1, z2, vs, z3, z4⟩, w⟩ := R.ns j n' b xs q' (by rw [f']; exact hb)
    have hba : b ≠ a := fun z => R.noN_at e ho es j n' xs q' (by rw [← z, f']; exact hb)
    have et : n'.tag = n.tag := by
      rcases set_get q with ⟨rfl, _, z⟩ | ⟨hj, q⟩
      · cases z; rw [e] at q'; cases q'; exact ht.symm
      · rw [q] at q'; cases q'; rfl
    rw [et] at z2
    refine ⟨⟨z1, z2, vs, by rw [upd_ne hba]; exact z3, z4⟩, fun k r q2 => ?_⟩
    obtain ⟨r', q2', f2, o2⟩ := old q2
    obtain ⟨w1, w2⟩ := w k r' q2'
    exact ⟨fun hr => w1 (o2 hr), fun ys hy => w2 ys (by rw [f2]; exact hy)⟩
end
end DL
namespace DL
open PySem L2
theorem peImp {X : Cx} {e : Expr} {t t' : TE} (h : PE X e t) (w : ∀ σ H Q, t' σ H Q → t σ H Q) : PE X e t' := ⟨fun pins s σ H Q I q => h.run pins s σ H Q I (w _ _ _ q)⟩
theorem ptImp {X : Cx} {e : Expr} {t t' : TT} (h : PT X e t) (w : ∀ σ H Q, t' σ H Q → t σ H Q) : PT X e t' := ⟨fun pins s σ H Q I q => h.run pins s σ H Q I (w _ _ _ q)⟩
theorem pwImp {X : Cx} {e : Expr} {t t' : TT} (h : PW X e t) (w : ∀ σ H Q, t' σ H Q → t σ H Q) : PW X e t' := ⟨fun wh pins s σ H Q I q => h.run wh pins s σ H Q I (w _ _ _ q)⟩
theorem paImp {X : Cx} {e : List Expr} {t t' : TA} (h : PA X e t) (w : ∀ σ H Q, t' σ H Q → t σ H Q) : PA X e t' := ⟨fun pos pins s σ H Q I q => h.run pos pins s σ H Q I (w _ _ _ q)⟩
theorem psImp {X : Cx} {e : Stmt} {t t' : TS} (h : PS X e t) (w : ∀ D σ H, t' D σ H → t D σ H) : PS X e t' := ⟨fun pins s σ H D I q => h.run pins s σ H D I (w _ _ _ q)⟩
theorem pssImp {X : Cx} {e : List Stmt} {t t' : TS} (h : PSs X e t) (w : ∀ D σ H, t' D σ H → t D σ H) : PSs X e t' := ⟨fun pins s σ H D I q => h.run pins s σ H D I (w _ _ _ q)⟩
abbrev TD := En → (PD → En → Prop) → Prop
abbrev TF := En → (Lc → En → Prop) → Prop
abbrev TTd := En → (Bool → En → Prop) → Prop
inductive Op1 where
  | e (t : TD)
  | s (i : Nat)
  /-- the own list under a name in the own instance of a slot -/
  | f (C : Addr) (i : Nat) (nm : Str)
inductive AV where
  | v (x : PD)
  | s (i : Nat)
  | f (i : Nat) (nm : Str) (b : Addr)
abbrev TAd := En → (List AV → En → Prop) → Prop
def Op1.run : Op1 → En → (AV → En → Prop) → Prop
  | .e t, ρ, Q => t ρ fun x ρ' => Q (.v x) ρ'
  | .s i, ρ, Q => match ρ[i]? with
    | some (some _) => Q (.s i) ρ
    | _ => False
  | .f C i nm, ρ, Q => match ρ[i]? with
    | some (some (.nb _ B fs ns)) => B = C ∧ noF nm fs = true ∧ (match getN nm ns with
      | some (b, _) => Q (.f i nm b) ρ
      | none => False)
    | _ => False
section
variable (K : PySem.W.Frag)
structure Frs (G : Gm) (F H : Hp) (ρ : En) (σ : L2.St) (l : Lc) (a : Addr) : Prop where
  hf : NoS ρ σ a
  hn : NoN ρ a
  ns : NsR K G F H ρ σ l (.ref a)
def RsOk (G : Gm) (F H : Hp) (ρ : En) (σ : L2.St) : Lc → V → Prop
  | .d x, v => Df K F v x
  | .sc xs, v => ScOk K F xs v
  | l, v => ∃ a, v = .ref a ∧ l.tag = none ∧ At K G F H l a ∧ Frs K G F H ρ σ l a
def AvOk (F : Hp) (σ : L2.St) : AV → V → Prop
  | .v x, v => Df K F v x
  | .s i, v => σ[i]? = some (some v)
  | .f _ _ b, v => v = .ref b
inductive AvA (F : Hp) (σ : L2.St) : List AV → List V → Prop
  | nil : AvA F σ [] []
  | cons {a : AV} {as : List AV} {v : V} {vs : List V} : AvOk K F σ a v → AvA F σ as vs → AvA F σ (a :: as) (v :: vs)
def liftD [Pn] (t : TD) : TE := fun σ H Q => ∃ G ρ F Q', Rel K G ρ F σ H ∧ t ρ Q' ∧ ∀ x ρ' v H' F', Q' x ρ' → Rel K G ρ' F' σ H' → Same F F' → Df K F' v x → Q v H'
def liftF [Pn] (t : TF) : TE := fun σ H Q => ∃ G ρ F Q', Rel K G ρ F σ H ∧ t ρ Q' ∧ ∀ l ρ' v H' F', Q' l ρ' → Rel K G ρ' F' σ H' → Same F F' → RsOk K G F' H' ρ' σ l v → Q v H'
def liftT [Pn] (t : TTd) : TT := fun σ H Q => ∃ G ρ F Q', Rel K G ρ F σ H ∧ t ρ Q' ∧ ∀ b ρ' H' F', Q' b ρ' → Rel K G ρ' F' σ H' → Same F F' → Q b H'
def liftO [Pn] (o : Op1) : TE := fun σ H Q => ∃ G ρ F Q', Rel K G ρ F σ H ∧ o.run ρ Q' ∧ ∀ a ρ' v H' F', Q' a ρ' → Rel K G ρ' F' σ H' → Same F F' → AvOk K F' σ a v → Q v H'
def liftA [Pn] (n : Nat) (t : TAd) : TA := fun σ H Q => ∃ G ρ F Q', Rel K G ρ F σ H ∧ t ρ Q' ∧ ∀ as ρ' vs H' F', Q' as ρ' → as.length = n → Rel K G ρ' F' σ H' → Same F F' → AvA K F' σ as vs → Q vs H'
end
structure LD [Pn] (X : Cx) (e : Expr) (t : TD) : Prop where
  p : PE X e (liftD X.K t)
structure LF [Pn] (X : Cx) (e : Expr) (t : TF) : Prop where
  p : PE X e (liftF X.K t)
structure LT [Pn] (X : Cx) (e : Expr) (t : TTd) : Prop where
  p : PT X e (liftT X.K t)
structure LW [Pn] (X : Cx) (e : Expr) (t : TTd) : Prop where
  p : PW X e (liftT X.K t)
structure LO [Pn] (X : Cx) (e : Expr) (t : Op1) : Prop where
  p : PE X e (liftO X.K t)
structure LA [Pn] (X : Cx) (es : List Expr) (t : TAd) : Prop where
  p : PA X es (liftA X.K es.length t)
section
variable {G : Gm} {X : Cx} {K : PySem.W.Frag} {F F' H H' : Hp} {ρ : En} {σ : L2.St} {v : V} {x : PD}
inductive Dr (K : PySem.W.Frag) (F H : Hp) : V → PD → Prop
  | f {v : V} {x : PD} : Df K F v x → Dr K F H v x
  | l {a : Addr} {vs : List V} {xs : List PD} : H a = some (.lst vs) → DfA K F vs xs → Dr K F H (.ref a) (.list xs)
  | k {a : Addr} {us : List (Key × V)} {kvs : List (Key × PD)} : H a = some (.dK us) → DKv K F us kvs → Dr K F H (.ref a) (.dict (kvs.map fun p => (keyD p.1, p.2)))
def res1 (ρ : En) : AV → (PD → Prop) → Prop
  | .v x, k => k x
  | .s i, k => match ρ[i]? with
    | some (some (.d x)) => k x
    | some (some (.ls _ xs)) => k (.list xs)
    | some (some (.dk _ kvs)) => k (.dict (kvs.map fun p => (keyD p.1, p.2)))
    | _ => False
  | .f i nm b, k => match ρ[i]? with
    | some (some (.nb _ _ _ ns)) => (match getN nm ns with
      | some (c, xs) => c = b ∧ k (.list xs)
      | none => False)
    | _ => False
def resF (ρ : En) : AV → (PD → Prop) → Prop
  | .v x, k => k x
  | .s i, k => match ρ[i]? with
    | some (some (.d x)) => k x
    | _ => False
  | .f _ _ _, _ => False
def resA (ρ : En) : List AV → (List PD → Prop) → Prop
  | [], k => k []
  | a :: r, k => res1 ρ a fun x => resA ρ r fun xs => k (x :: xs)
def resFA (ρ : En) : List AV → (List PD → Prop) → Prop
  | [], k => k []
  | a :: r, k => resF ρ a fun x => resFA ρ r fun xs => k (x :: xs)
inductive DrA (K : PySem.W.Frag) (F H : Hp) : List V → List PD → Prop
  | nil : DrA K F H [] []
  | cons {v : V} {vs : List V} {d : PD} {ds : List PD} : Dr K F H v d → DrA K F H vs ds → DrA K F H (v :: vs) (d :: ds)
theorem AvOk.mono {a : AV} (s : Same F F') (h : AvOk K F σ a v) : AvOk K F' σ a v := by
  cases a with
  | v x => exact Df.mono s h
  | s i => exact h
  | f i nm b => exact h
theorem Rel.nst [Pn] {i : Nat} {p : Option Nat} {C : Addr} {fs : List (Str × PD)} {ns : List (Str × Addr × List PD)} {nm : Str} {b : Addr} {xs : List PD} (R : Rel K G ρ F σ H) (e : ρ[i]? = some (some (.nb p C fs ns))) (h : getN nm ns = some (b, xs)) : ∃ vs, H b = some (.lst vs) ∧ DfA K F vs xs :=
  (R.ns i _ b xs e (List.mem_map.mpr ⟨_, getN_mem h, rfl⟩)).1.ob
theorem AvA.mono {as : List AV} {vs : List V} (s : Same F F') (h : AvA K F σ as vs) : AvA K F' σ as vs := by
  induction h with
  | nil => exact .nil
  | cons a _ ih => exact .cons (a.mono s) ih
theorem res1_dr [Pn] (R : Rel K G ρ F σ H) {a : AV} (h : AvOk K F σ a v) {k : PD → Prop} (r : res1 ρ a k) : ∃ x, k x ∧ Dr K F H v x := by
  cases a with
  | v x => exact ⟨x, r, .f h⟩
  | s i =>
    dsimp only [res1] at r
    have h : σ[i]? = some (some v) := h
    split at r
    · rename_i x e
      obtain ⟨u, e1, d⟩ := R.sl i _ e
      rw [h] at e1
      have : v = u := by simpa using e1
      subst this
      exact ⟨x, r, .f d⟩
    · rename_i p xs e
      obtain ⟨b, e1, nf, ow, o, eo, ok⟩ := R.at_ e rfl
      rw [h] at e1
      have : v = .ref b := by simpa using e1
      subst this
      cases o <;> first | exact False.elim ok | exact ⟨_, r, .l eo ok⟩
    · rename_i p xs e
      obtain ⟨b, e1, nf, ow, o, eo, ok⟩ := R.at_ e rfl
      rw [h] at e1
      have : v = .ref b := by simpa using e1
      subst this
      cases o <;> first | exact False.elim ok | exact ⟨_, r, .k eo ok⟩
    · exact False.elim r
  | f i nm b =>
    dsimp only [res1] at r
    have h : v = .ref b := h
    subst h
    split at r
    · rename_i p C fs ns e
      split at r
      · rename_i c xs en
        obtain ⟨rfl, r⟩ := r
        obtain ⟨vs, e1, d⟩ := R.nst e en
        exact ⟨_, r, .l e1 d⟩
      · exact False.elim r
    · exact False.elim r
theorem resF_df [Pn] (R : Rel K G ρ F σ H) {a : AV} (h : AvOk K F σ a v) {k : PD → Prop} (r : resF ρ a k) : ∃ x, k x ∧ Df K F v x := by
  cases a with
  | v x => exact ⟨x, r, h⟩
  | s i =>
    dsimp only [resF] at r
    have h : σ[i]? = some (some v) := h
    split at r
    · rename_i x e
      obtain ⟨u, e1, d⟩ := R.sl i _ e
      rw [h] at e1
      have : v = u := by simpa using e1
      subst this
      exact ⟨x, r, d⟩
    · exact False.elim r
  | f i nm b => exact False.elim r
theorem resA_dr [Pn] (R : Rel K G ρ F σ H) : ∀ {as : List AV} {vs : List V}, AvA K F σ as vs → ∀ {k : List PD → Prop}, resA ρ as k → ∃ xs, k xs ∧ DrA K F H vs xs
  | _, _, .nil, k, r => ⟨[], r, .nil⟩
  | _, _, .cons a t, k, r => by
    obtain ⟨x, r1, d⟩ := res1_dr R a r
    obtain ⟨xs, r2, ds⟩ := resA_dr R t r1
    exact ⟨x :: xs, r2, .cons d ds⟩
theorem resFA_df [Pn] (R : Rel K G ρ F σ H) : ∀ {as : List AV} {vs : List V}, AvA K F σ as vs → ∀ {k : List PD → Prop}, resFA ρ as k → ∃ xs, k xs ∧ DfA K F vs xs
  | _, _, .nil, k, r => ⟨[], r, .nil⟩
  | _, _, .cons a t, k, r => by
    obtain ⟨x, r1, d⟩ := resF_df R a r
    obtain ⟨xs, r2, ds⟩ := resFA_df R t r1
    exact ⟨x :: xs, r2, .cons d ds⟩
theorem AvA.length {as : List AV} {vs : List V} (h : AvA K F σ as vs) : as.length = vs.length := by
  induction h with
  | nil => rfl
  | cons _ _ ih => rw [List.length_cons, List.length_cons, ih]
theorem Dr.df (s : Same F H) (h : Dr K F H v x) : Df K H v x := by
  cases h with
  | f h => exact h.mono s
  | l e h => exact .lst (.inl e) (h.mono s)
  | k e h => exact .dk (.inl e) ((DKv.mono s h).dfk)
theorem Dr.int {i : Int} (h : Dr K F H v (.int i)) : v = .int i := by cases h with | f h => cases h; rfl
theorem Dr.str {i : Str} (h : Dr K F H v (.str i)) : v = .str i := by cases h with | f h => cases h; rfl
theorem Dr.bl {i : Bool} (h : Dr K F H v (.bool i)) : v = .bl i := by cases h with | f h => cases h; rfl
theorem Dr.non (h : Dr K F H v .none) : v = .non := by cases h with | f h => cases h; rfl
theorem Dr.tup {xs : List PD} (s : Same F H) (h : Dr K F H v (.tuple xs)) : ∃ a vs, v = .ref a ∧ SqT K H a vs ∧ DfA K F vs xs := by
  cases h with
  | f h => cases h with | tup q d => exact ⟨_, _, rfl, seqT s q, d⟩
theorem Dr.lst {xs : List PD} (s : Same F H) (h : Dr K F H v (.list xs)) : ∃ a vs, v = .ref a ∧ Rd H a (.lst vs) ∧ DfA K F vs xs := by
  cases h with
  | f h => cases h with | lst q d => exact ⟨_, _, rfl, rdM s q, d⟩
  | l e d => exact ⟨_, _, rfl, .inl e, d⟩
def dFz (t : TF) : TD := fun ρ Q => t ρ fun l ρ' => if l.fz = true then Q l.pd ρ' else False
def fD (t : TD) : TF := fun ρ Q => t ρ fun x ρ' => Q (.d x) ρ'
theorem RsOk.freeze [Pn] {l : Lc} (R : Rel K G ρ F σ H) (h : RsOk K G F H ρ σ l v) (hz : l.fz = true) : ∃ F', Rel K G ρ F' σ H ∧ Same F F' ∧ Df K F' v l.pd := by
  cases l with
  | d x => exact ⟨F, R, Same.refl _, h⟩
  | sc u => simp [Lc.fz] at hz
  | ls p xs =>
    obtain ⟨a, rfl, ht, ⟨nf, ow, o, eo, ok⟩, hf⟩ := h
    have ht : p = none := ht
    subst ht
    obtain ⟨R', s⟩ := R.freeze nf ow eo hf.hf hf.hn
    exact ⟨_, R', s, ok.df hz upd_same s⟩
  | dk p xs =>
    obtain ⟨a, rfl, ht, ⟨nf, ow, o, eo, ok⟩, hf⟩ := h
    have ht : p = none := ht
    subst ht
    obtain ⟨R', s⟩ := R.freeze nf ow eo hf.hf hf.hn
    exact ⟨_, R', s, ok.df hz upd_same s⟩
  | ob p C xs =>
    obtain ⟨a, rfl, ht, ⟨nf, ow, o, eo, ok⟩, hf⟩ := h
    have ht : p = none := ht
    subst ht
    obtain ⟨R', s⟩ := R.freeze nf ow eo hf.hf hf.hn
    exact ⟨_, R', s, ok.df hz upd_same s⟩
  | dt p xs => cases p <;> simp [Lc.fz] at hz
  | nb p C fs ns => simp [Lc.fz] at hz
  | ln p xs => simp [Lc.fz] at hz
variable {e e2 : Expr} {es : List Expr} {pos : Pos}
theorem LD.ofF [Pn] {t : TF} (h : LF X e t) : LD X e (dFz t) := ⟨peImp h.p fun σ H Q ⟨G, ρ, F, Q', R, q, c⟩ => ⟨G, ρ, F, _, R, q, fun l ρ' v H' F' h1 R1 s1 r1 => by
  split at h1
  · rename_i hz
    obtain ⟨F2, R2, s2, d⟩ := r1.freeze R1 hz
    exact c _ _ v H' F2 h1 R2 (s1.trans s2) d
  · exact False.elim h1⟩⟩
theorem LF.ofD [Pn] {t : TD} (h : LD X e t) : LF X e (fD t) := ⟨peImp h.p fun σ H Q ⟨G, ρ, F, Q', R, q, c⟩ => ⟨G, ρ, F, _, R, q, fun x ρ' v H' F' h1 R1 s1 r1 => c _ _ v H' F' h1 R1 s1 r1⟩⟩
theorem LO.ofD [Pn] {t : TD} (h : LD X e t) : LO X e (.e t) := ⟨peImp h.p fun σ H Q ⟨G, ρ, F, Q', R, q, c⟩ => ⟨G, ρ, F, _, R, q, fun x ρ' v H' F' h1 R1 s1 r1 => c _ _ v H' F' h1 R1 s1 r1⟩⟩
def dC (x : PD) : TD := fun ρ Q => Q x ρ
def dVar (i : Nat) : TD := fun ρ Q => match ρ[i]? with
  | some (some (.d x)) => Q x ρ
  | some (some l) => if l.fz = true then Q l.pd (ρ.set i (some (.d l.pd))) else False
  | _ => False
theorem LD.int [Pn] {i : Int} {j : Nat} : LD X (.Constant (.int i) j pos) (dC (.int i)) := ⟨peImp pe_int fun σ H Q ⟨G, ρ, F, Q', R, q, c⟩ => c _ _ _ H F q R (Same.refl _) (.int i)⟩
theorem LD.str [Pn] {i : Str} {j : Nat} : LD X (.Constant (.str i) j pos) (dC (.str i)) := ⟨peImp pe_str fun σ H Q ⟨G, ρ, F, Q', R, q, c⟩ => c _ _ _ H F q R (Same.refl _) (.str i)⟩
theorem LD.bl [Pn] {i : Bool} {j : Nat} : LD X (.Constant (.bool i) j pos) (dC (.bool i)) := ⟨peImp pe_bl fun σ H Q ⟨G, ρ, F, Q', R, q, c⟩ => c _ _ _ H F q R (Same.refl _) (.bl i)⟩
theorem LD.non [Pn] {j : Nat} : LD X (.Constant .none j pos) (dC .none) := ⟨peImp pe_non fun σ H Q ⟨G, ρ, F, Q', R, q, c⟩ => c _ _ _ H F q R (Same.refl _) .non⟩
theorem LD.glob [Pn] {x : Str} {v : V} {u : Value} {d : PD} (hg : Gl X x) (hm : X.mg x = some u) (r : RelV v u) (h : ∀ F, Df X.K F v d) (hd : (x == ("__debug__" : Str)) = false := by decide) : LD X (.Name x pos) (dC d) :=
  ⟨peImp (pe_glob hg hm r hd) fun σ H Q ⟨G, ρ, F, Q', R, q, c⟩ => c _ _ _ H F q R (Same.refl _) (h F)⟩
theorem LD.var [Pn] (i : Nat) (h : PE X e (tVar i)) : LD X e (dVar i) := ⟨peImp h fun σ H Q ⟨G, ρ, F, Q', R, q, c⟩ => by
  unfold dVar at q
  split at q
  · rename_i x er
    obtain ⟨v, e1, d⟩ := R.sl i _ er
    exact ⟨v, e1, c _ _ v H F q R (Same.refl _) d⟩
  · rename_i l nd er
    split at q
    · rename_i hz
      have ho : l.own = true := by
        cases l with
        | d x => exact absurd rfl (nd x)
        | sc u => simp [Lc.fz] at hz
        | _ => rfl
      obtain ⟨F', a, R', s, es, d⟩ := R.freeze_slot er ho hz
      exact ⟨_, es, c _ _ _ H F' q R' s d⟩
    · exact False.elim q
  · exact False.elim q⟩
theorem LO.s [Pn] (i : Nat) (h : PE X e (tVar i)) : LO X e (.s i) := ⟨peImp h fun σ H Q ⟨G, ρ, F, Q', R, q, c⟩ => by
  dsimp only [Op1.run] at q
  split at q
  · rename_i l er
    obtain ⟨v, e1⟩ := (R.sl i _ er).some
    exact ⟨v, e1, c _ _ v H F q R (Same.refl _) e1⟩
  · exact False.elim q⟩
def aNil : TAd := fun ρ Q => Q [] ρ
def aCons (o : Op1) (r : TAd) : TAd := fun ρ Q => o.run ρ fun a ρ1 => r ρ1 fun as ρ2 => Q (a :: as) ρ2
theorem LA.nil [Pn] : LA X [] aNil := ⟨paImp pa_nil fun σ H Q ⟨G, ρ, F, Q', R, q, c⟩ => c _ _ _ H F q rfl R (Same.refl _) .nil⟩
theorem LA.cons [Pn] {o : Op1} {r : TAd} (h : LO X e o) (hr : LA X es r) (hs : starEach (e :: es) X.env = (false, eval e X.env) :: starEach es X.env := by rfl) : LA X (e :: es) (aCons o r) :=
  ⟨paImp (pa_cons h.p hr.p hs) fun σ H Q ⟨G, ρ, F, Q', R, q, c⟩ => ⟨G, ρ, F, _, R, q, fun a ρ1 v H1 F1 h1 R1 s1 a1 => ⟨G, ρ1, F1, _, R1, h1, fun as ρ2 vs H2 F2 h2 hl R2 s2 a2 =>
    c _ _ _ H2 F2 h2 (by rw [List.length_cons, List.length_cons, hl]) R2 (s1.trans s2) (.cons (a1.mono s2) a2)⟩⟩⟩
def dTup (t : TAd) : TD := fun ρ Q => t ρ fun as ρ1 => resFA ρ1 as fun xs => Q (.tuple xs) ρ1
def fLst (t : TAd) : TF := fun ρ Q => t ρ fun as ρ1 => resFA ρ1 as fun xs => Q (.ls none xs) ρ1
theorem LD.tup [Pn] {t : TAd} {k : Nat} (h : LA X es t) (hn : es.length ≤ 100000 := by decide) : LD X (.Tuple es k pos) (dTup t) := ⟨peImp (pe_tup h.p) fun σ H Q ⟨G, ρ, F, Q', R, q, c⟩ => ⟨G, ρ, F, _, R, q, fun as ρ1 vs H1 F1 h1 hl R1 s1 a1 => by
  obtain ⟨xs, h2, d⟩ := resFA_df R1 a1 h1
  refine ⟨Nat.le_trans (by rw [← a1.length, hl]; exact hn) (by decide), fun p hp => ?_⟩
  have g := Grow.frozen R1.fh hp (.tup vs)
  exact c _ _ _ _ _ h2 (R1.grow g) (s1.trans g.ff) (.tup (SqT.of upd_same) (d.mono g.ff))⟩⟩
theorem fresh_ok [Pn] {l : Lc} {p : Addr} {o : HO} (R : Rel K G ρ F σ H) (hp : H p = none) (ok : HoOk K F l o) (ht : l.tag = none) (hfp : l.fp = [] := by rfl) : Rel K G ρ F σ (upd H p o) ∧ RsOk K G F (upd H p o) ρ σ l (.ref p) := by
  refine ⟨R.grow (Grow.owned R.fh hp o), ?_⟩
  have h : ∃ a, V.ref p = .ref a ∧ l.tag = none ∧ At K G F (upd H p o) l a ∧ Frs K G F (upd H p o) ρ σ l a := by
    refine ⟨p, rfl, ht, ⟨R.fh.free hp, ?_, o, upd_same, ok⟩, R.noS_free hp, R.noN_free hp, .nil hfp⟩
    rw [ht]; exact R.h0 hp
  cases l with
  | d x => cases o <;> exact False.elim ok
  | sc u => cases o <;> exact False.elim ok
  | _ => exact h
theorem LF.lst [Pn] {t : TAd} (h : LA X es t) (hn : es.length ≤ 100000 := by decide) : LF X (.List es pos) (fLst t) := ⟨peImp (pe_lst h.p) fun σ H Q ⟨G, ρ, F, Q', R, q, c⟩ => ⟨G, ρ, F, _, R, q, fun as ρ1 vs H1 F1 h1 hl R1 s1 a1 => by
  obtain ⟨xs, h2, d⟩ := resFA_df R1 a1 h1
  refine ⟨Nat.le_trans (by rw [← a1.length, hl]; exact hn) (by decide), fun p hp => ?_⟩
  obtain ⟨R2, k⟩ := fresh_ok (l := .ls none xs) (o := .lst vs) R1 hp d rfl
  exact c _ _ _ _ _ h2 R2 s1 k⟩⟩
abbrev F2 := PD → PD → (PD → Prop) → Prop
def Op2Ok (K : PySem.W.Frag) (f : F2) (r : R2) : Prop := ∀ (F H : Hp) (vx vy : V) (x y : PD) (k : PD → Prop) (Q : VK), Same F H → Dr K F H vx x → Dr K F H vy y → f x y k →
  (∀ z v F' H', k z → Grow F H F' H' → Df K F' v z → Q v H') → r vx vy H Q
def dBin (f : F2) (a b : Op1) : TD := fun ρ Q => a.run ρ fun x ρ1 => b.run ρ1 fun y ρ2 => res1 ρ2 x fun x' => res1 ρ2 y fun y' => f x' y' fun z => Q z ρ2
variable {f : F2} {r : R2} {oa ob oc : Op1}
theorem tOp_of [Pn] (hf : Op2Ok K f r) {Q : VK} (h : liftD K (dBin f oa ob) σ H Q) : tOp r (liftO K oa) (liftO K ob) σ H Q := by
  obtain ⟨G, ρ, F, Q', R, q, c⟩ := h
  refine ⟨G, ρ, F, _, R, q, fun a ρ1 vx H1 F1 h1 R1 s1 ax => ⟨G, ρ1, F1, _, R1, h1, fun b ρ2 vy H2 F2 h2 R2 s2 ay => ?_⟩⟩
  obtain ⟨x', h3, dx⟩ := res1_dr R2 (ax.mono s2) h2
  obtain ⟨y', h4, dy⟩ := res1_dr R2 ay h3
  exact hf F2 H2 vx vy x' y' _ Q R2.fh dx dy h4 fun z v F' H' kz g d => c _ _ _ _ _ kz (R2.grow g) ((s1.trans s2).trans g.ff) d
theorem LD.bin [Pn] {op : Operator} (ho : OpR X (binaryOp op) r) (hf : Op2Ok X.K f r) (ha : LO X e oa) (hb : LO X e2 ob) : LD X (.BinOp e op e2 pos) (dBin f oa ob) := ⟨peImp (pe_op ho ha.p hb.p) fun _ _ _ h => tOp_of hf h⟩
theorem LD.cmp [Pn] {op : CmpOp} (ho : OpR X (compareOp op) r) (hf : Op2Ok X.K f r) (ha : LO X e oa) (hb : LO X e2 ob) (hm : behindInMarks op e2 = false) : LD X (.Compare e [op] [e2] pos) (dBin f oa ob) := ⟨peImp (pe_cmpR ho ha.p hb.p hm) fun _ _ _ h => tOp_of hf h⟩
def bAdd : F2
  | .int i, .int j, k => k (.int (i + j))
  | .list xs, .list ys, k => xs.length + ys.length ≤ sizeLine ∧ k (.list (xs ++ ys))
  | .tuple xs, .tuple ys, k => xs ≠ [] ∧ xs.length + ys.length ≤ sizeLine ∧ k (.tuple (xs ++ ys))
  | .str x, .str y, k => x.length + y.length ≤ sizeLine ∧ k (.str (x ++ y))
  | _, _, _ => False
def bSub : F2
  | .int i, .int j, k => k (.int (i - j))
  | _, _, _ => False
def bFdiv : F2
  | .int i, .int j, k => CDivW i j ∧ k (.int (i / j))
  | _, _, _ => False
def bMod : F2
  | .int i, .int j, k => 0 < j ∧ k (.int (i % j))
  | _, _, _ => False
def CPowW (i j : Int) : Prop := 0 ≤ j ∧ (Builtin.Int.intBits i : Int) * j ≤ 2 ^ 27
def bPow : F2
  | .int i, .int j, k => CPowW i j ∧ k (.int (i ^ j.toNat))
  | _, _, _ => False
def bShl : F2
  | .int i, .int j, k => CPow i j ∧ k (.int (i * 2 ^ j.toNat))
  | _, _, _ => False
end
end DL
namespace DL
open PySem L2 PyProof.Rows
section
variable {X : Cx} {K : PySem.W.Frag} {F H : Hp}
theorem rd_list {pins : List (Addr × Obj)} {σ : L2.St} {s : Shared} {l : Addr} {xs : List V} (I : Inv X pins σ H s) (h : Rd H l (.lst xs)) :
    xs.length ≤ sizeLine ∧ ∃ (its : List Value) (n : Nat), Vals xs its ∧ xs.length = its.length ∧ s.heap.get? l = some { cls := .type "list", data := .seq its.toArray n } := by
  have q : ObjOk X.prog X.w H s.heap l (.lst xs) := h.ok I.hok
  obtain ⟨z, its, n, r, e⟩ := q
  exact ⟨z, its, n, r, r.length, e⟩
theorem rdSq {l : Addr} {xs : List V} (h : Rd H l (.lst xs)) : SqL K H l xs := .inl h
def rCatD : R2 := fun x y H Q => ∃ l b xs zs, x = .ref l ∧ y = .ref b ∧ Rd H l (.lst xs) ∧ Rd H b (.lst zs) ∧ xs.length + zs.length ≤ sizeLine ∧ ∀ p, H p = none → Q (.ref p) (upd H p (.lst (xs ++ zs)))
theorem op_catD : OpR X (binaryOp .Add) rCatD := by
  intro pins s σ H x y v u Q I rx ry ⟨l, b, xs, zs, ex, ey, hx, hy, hz, q⟩
  subst ex ey
  cases rx; cases ry
  obtain ⟨z, is1, n, r, hl, e⟩ := rd_list I hx
  obtain ⟨z2, is2, n2, r2, hl2, e2⟩ := rd_list I hy
  have ea : is1.toArray ++ is2.toArray = (is1 ++ is2).toArray := by simp
  refine PySem.P.add_list e e2 ?_ (by simp only [List.size_toArray]; omega)
  simp only [ea]
  refine ⟨.ref _, _, I.lnew (t' := s.toks) (r.append r2) ?_, rfl, q _ I.fresh⟩
  simp only [List.length_append]; exact hz
def rAddD (K : PySem.W.Frag) : R2 := fun x y H Q => rI0 (fun i j => .int (i + j)) x y H Q ∨ rCatD x y H Q ∨ rCatT K x y H Q ∨ (∃ i j, x = .str i ∧ y = .str j ∧ i.length + j.length ≤ sizeLine ∧ Q (.str (i ++ j)) H)
theorem op_addD : OpR X (binaryOp .Add) (rAddD X.K) := op_add.or (op_catD.or (op_catT.or op_add_str))
theorem ok_add : Op2Ok K bAdd (rAddD K) := by
  intro F H vx vy x y k Q s dx dy h c
  unfold bAdd at h
  split at h
  · rename_i i j
    rw [dx.int, dy.int]
    exact .inl ⟨_, _, rfl, rfl, c _ _ F H h (Grow.refl s) (.int _)⟩
  · obtain ⟨a, vs, rfl, q, d⟩ := dx.lst s
    obtain ⟨b, us, rfl, q2, d2⟩ := dy.lst s
    refine .inr (.inl ⟨a, b, vs, us, rfl, rfl, q, q2, by rw [d.length, d2.length]; exact h.1, fun p hp => ?_⟩)
    have g := Grow.frozen s hp (.lst (vs ++ us))
    exact c _ _ _ _ h.2 g (.lst (.inl upd_same) ((d.append d2).mono g.ff))
  · obtain ⟨a, vs, rfl, q, d⟩ := dx.tup s
    obtain ⟨b, us, rfl, q2, d2⟩ := dy.tup s
    obtain ⟨h1, h2, h3⟩ := h
    have ne : vs ≠ [] := fun z => h1 (by have := d.length; rw [z] at this; exact List.length_eq_zero_iff.mp this.symm)
    refine .inr (.inr (.inl ⟨a, b, vs, us, rfl, rfl, q, q2, ne, by rw [d.length, d2.length]; exact h2, ?_, ?_⟩))
    · intro e
      have : us = [] := e
      subst this
      cases d2
      rw [List.append_nil] at h3
      cases dx with
      | f dx => exact c _ _ F H h3 (Grow.refl s) dx
    · intro _ p hp
      have g := Grow.frozen s hp (.tup (vs ++ us))
      exact c _ _ _ _ h3 g (.tup (SqT.of upd_same) ((d.append d2).mono g.ff))
  · rw [dx.str, dy.str]
    exact .inr (.inr (.inr ⟨_, _, rfl, rfl, h.1, c _ _ F H h.2 (Grow.refl s) (.str _)⟩))
  · exact False.elim h
theorem ok_sub : Op2Ok K bSub (rI0 fun i j => .int (i - j)) := by
  intro F H vx vy x y k Q s dx dy h c
  unfold bSub at h
  split at h
  · rw [dx.int, dy.int]
    exact ⟨_, _, rfl, rfl, c _ _ F H h (Grow.refl s) (.int _)⟩
  · exact False.elim h
theorem op_mulI : OpR X (binaryOp .Mult) (rI IntMulOk fun i j => .int (i * j)) := opI fun _ _ _ _ _ _ _ hc q => mul_int q hc
theorem ok_mulI {f : F2} (hf : ∀ x y k, f x y k → ∃ i j, x = .int i ∧ y = .int j ∧ IntMulOk i j ∧ k (.int (i * j))) : Op2Ok K f (rI IntMulOk fun i j => .int (i * j)) := by
  intro F H vx vy x y k Q s dx dy h c
  obtain ⟨i, j, rfl, rfl, h1, h2⟩ := hf _ _ _ h
  rw [dx.int, dy.int]
  exact ⟨_, _, rfl, rfl, h1, c _ _ F H h2 (Grow.refl s) (.int _)⟩
theorem ok_I {f : F2} {C : Int → Int → Prop} {g : Int → Int → Int} (hf : ∀ x y k, f x y k → ∃ i j, x = .int i ∧ y = .int j ∧ C i j ∧ k (.int (g i j))) : Op2Ok K f (rI C fun i j => .int (g i j)) := by
  intro F H vx vy x y k Q s dx dy h c
  obtain ⟨i, j, rfl, rfl, h1, h2⟩ := hf _ _ _ h
  rw [dx.int, dy.int]
  exact ⟨_, _, rfl, rfl, h1, c _ _ F H h2 (Grow.refl s) (.int _)⟩
theorem ok_fdiv : Op2Ok K bFdiv (rI CDivW fun i j => .int (i / j)) := ok_I fun x y k h => by
  unfold bFdiv at h
  split at h
  · exact ⟨_, _, rfl, rfl, h⟩
  · exact False.elim h
theorem ok_mod : Op2Ok K bMod (rI (fun _ j => 0 < j) fun i j => .int (i % j)) := ok_I fun x y k h => by
  unfold bMod at h
  split at h
  · exact ⟨_, _, rfl, rfl, h⟩
  · exact False.elim h
theorem op_powW : OpR X (binaryOp .Pow) (rI CPowW fun i j => .int (i ^ j.toNat)) := opI fun _ _ _ _ _ _ _ hc q => pow_int hc.1 hc.2 q
theorem ok_pow : Op2Ok K bPow (rI CPowW fun i j => .int (i ^ j.toNat)) := ok_I fun x y k h => by
  unfold bPow at h
  split at h
  · exact ⟨_, _, rfl, rfl, h⟩
  · exact False.elim h
theorem ok_shl : Op2Ok K bShl (rI CPow fun i j => .int (i * 2 ^ j.toNat)) := ok_I fun x y k h => by
  unfold bShl at h
  split at h
  · exact ⟨_, _, rfl, rfl, h⟩
  · exact False.elim h
def bMulI : F2
  | .int i, .int j, k => IntMulOk i j ∧ k (.int (i * j))
  | _, _, _ => False
theorem ok_mul : Op2Ok K bMulI (rI IntMulOk fun i j => .int (i * j)) := ok_mulI fun x y k h => by
  unfold bMulI at h
  split at h
  · exact ⟨_, _, rfl, rfl, h⟩
  · exact False.elim h
def shp (d : PD) : Prop := SeqAt.shaped d = true ∧ noDict d = true
def cEq : F2
  | .int i, .int j, k => k (.bool (decide (i = j)))
  | .str a, .str b, k => k (.bool (decide (a = b)))
  | x, y, k => shp x ∧ shp y ∧ k (.bool (PyData.eqv x y))
def cNe : F2
  | .int i, .int j, k => k (.bool (!decide (i = j)))
  | .str a, .str b, k => k (.bool (!decide (a = b)))
  | x, y, k => shp x ∧ shp y ∧ k (.bool (!PyData.eqv x y))
def rEqU (K : PySem.W.Frag) : R2 := fun x y H Q => rEq x y H Q ∨ rEqD K x y H Q
def rNeU (K : PySem.W.Frag) : R2 := fun x y H Q => rNe x y H Q ∨ rNeD K x y H Q
theorem op_eqU (hu : X.A.units + 64 < cLine) : OpR X (compareOp .Eq) (rEqU X.K) := op_eq.or (op_eqD hu)
theorem op_neU (hu : X.A.units + 64 < cLine) : OpR X (compareOp .NotEq) (rNeU X.K) := op_ne.or (op_neD hu)
theorem ok_eq : Op2Ok K cEq (rEqU K) := fun F H vx vy x y k Q s dx dy h c => by
  unfold cEq at h
  split at h
  · rw [dx.int, dy.int]
    refine .inl ⟨rfl, ?_⟩
    have := c _ _ F H h (Grow.refl s) (.bl _)
    simpa using this
  · rw [dx.str, dy.str]
    refine .inl ⟨rfl, ?_⟩
    have := c _ _ F H h (Grow.refl s) (.bl _)
    simpa using this
  · exact .inr ⟨x, y, (dx.df s).dp h.1.2, (dy.df s).dp h.2.1.2, h.1.1, h.2.1.1, c _ _ F H h.2.2 (Grow.refl s) (.bl _)⟩
theorem ok_ne : Op2Ok K cNe (rNeU K) := fun F H vx vy x y k Q s dx dy h c => by
  unfold cNe at h
  split at h
  · rw [dx.int, dy.int]
    refine .inl ⟨rfl, ?_⟩
    have := c _ _ F H h (Grow.refl s) (.bl _)
    simpa using this
  · rw [dx.str, dy.str]
    refine .inl ⟨rfl, ?_⟩
    have := c _ _ F H h (Grow.refl s) (.bl _)
    simpa using this
  · exact .inr ⟨x, y, (dx.df s).dp h.1.2, (dy.df s).dp h.2.1.2, h.1.1, h.2.1.1, c _ _ F H h.2.2 (Grow.refl s) (.bl _)⟩
def cI (p : Int → Int → Bool) : F2
  | .int i, .int j, k => k (.bool (p i j))
  | _, _, _ => False
theorem ok_cI (p : Int → Int → Bool) : Op2Ok K (cI p) (rI0 fun i j => .bl (p i j)) := by
  intro F H vx vy x y k Q s dx dy h c
  unfold cI at h
  split at h
  · rw [dx.int, dy.int]
    exact ⟨_, _, rfl, rfl, c _ _ F H h (Grow.refl s) (.bl _)⟩
  · exact False.elim h
abbrev cLt : F2 := cI fun i j => decide (i < j)
abbrev cLe : F2 := cI fun i j => decide (i ≤ j)
abbrev cGt : F2 := cI fun i j => decide (j < i)
abbrev cGe : F2 := cI fun i j => decide (j ≤ i)
def isNone : PD → Bool
  | .none => true
  | _ => false
def cNotN : F2 := fun x y k => y = .none ∧ k (.bool (!isNone x))
theorem dr_non {v : V} {x : PD} (h : Dr K F H v x) : decide (v = .non) = isNone x := by
  cases h with
  | f h => cases h <;> simp [isNone]
  | l _ _ => simp [isNone]
  | k _ _ => simp [isNone]
theorem ok_notN : Op2Ok K cNotN (fun x y H Q => y = .non ∧ Q (.bl (!decide (x = .non))) H) := by
  intro F H vx vy x y k Q s dx dy ⟨h1, h2⟩ c
  subst h1
  refine ⟨dy.non, ?_⟩
  rw [dr_non dx]
  exact c _ _ F H h2 (Grow.refl s) (.bl _)
def flatD : PD → Bool
  | .none => true
  | .bool _ => true
  | .int _ => true
  | .str _ => true
  | _ => false
theorem flat_v {v : V} {x : PD} (h : Df K F v x) (f : flatD x = true) : flatV v = true ∧ ∀ {u : V} {y : PD}, Df K F u y → flatD y = true → eqV v u = PyData.eqv x y := by
  cases h <;> simp [flatD] at f <;> refine ⟨rfl, fun {u y} g fy => ?_⟩ <;> cases g <;> first | (simp [flatD] at fy; done) | rfl | (simp [eqV, PyData.eqv])
theorem Dr.flat {v : V} {x : PD} (h : Dr K F H v x) (f : flatD x = true) : Df K F v x := by
  cases h with
  | f h => exact h
  | l _ _ => simp [flatD] at f
  | k _ _ => simp [flatD] at f
def itemsD : PD → Option (List PD)
  | .list xs => some xs
  | .tuple xs => some xs
  | _ => none
def cIn (neg : Bool) : F2 := fun x y k => flatD x = true ∧ ∃ ys, itemsD y = some ys ∧ ys.all flatD = true ∧ k (.bool (if neg then !(ys.any fun z => PyData.eqv z x) else ys.any fun z => PyData.eqv z x))
theorem flat_all {vs : List V} {ys : List PD} (h : DfA K F vs ys) (f : ys.all flatD = true) : vs.all flatV = true ∧ ∀ {u : V} {y : PD}, Df K F u y → flatD y = true → (vs.any fun z => eqV z u) = ys.any fun z => PyData.eqv z y := by
  induction vs generalizing ys with
  | nil => cases h; exact ⟨rfl, fun _ _ => rfl⟩
  | cons v vs ih =>
    cases h with
    | cons a b =>
      rw [List.all_cons, Bool.and_eq_true] at f
      obtain ⟨h1, h2⟩ := flat_v a f.1
      obtain ⟨h3, h4⟩ := ih b f.2
      refine ⟨by rw [List.all_cons, h1, h3]; rfl, fun {u y} g fy => ?_⟩
      rw [List.any_cons, List.any_cons, h2 g fy, h4 g fy]
theorem ok_in (neg : Bool) : Op2Ok K (cIn neg) (rIn K neg) := by
  intro F H vx vy x y k Q s dx dy ⟨fx, ys, ey, fy, h⟩ c
  have dx' := dx.flat fx
  obtain ⟨b, vs, rfl, q, d⟩ : ∃ b vs, vy = .ref b ∧ (SqL K H b vs ∨ SqT K H b vs) ∧ DfA K F vs ys := by
    cases y <;> simp [itemsD] at ey
    · subst ey
      obtain ⟨b, vs, e, q, d⟩ := dy.lst s
      exact ⟨b, vs, e, .inl (rdSq q), d⟩
    · subst ey
      obtain ⟨b, vs, e, q, d⟩ := dy.tup s
      exact ⟨b, vs, e, .inr q, d⟩
  obtain ⟨a1, a2⟩ := flat_all d fy
  refine ⟨b, vs, rfl, q, (flat_v dx' fx).1, a1, ?_⟩
  have e := a2 dx' fx
  unfold inV
  rw [e]
  exact c _ _ F H h (Grow.refl s) (.bl _)
end
end DL
namespace DL
open PySem L2 PyProof.Rows
section
variable {G : Gm} {X : Cx} {K : PySem.W.Frag} {F F' H H' : Hp} {ρ : En} {σ : L2.St} {e e2 e3 : Expr} {es : List Expr} {pos : Pos} {r r' : R2} {f f' : F2} {oa ob oc : Op1} {ta tb tc : TD} {t u : TTd}
def dNeg (o : Op1) : TD := fun ρ Q => o.run ρ fun a ρ1 => res1 ρ1 a fun x => match x with
  | .int i => Q (.int (-i)) ρ1
  | _ => False
theorem LD.neg [Pn] (h : LO X e oa) : LD X (.UnaryOp .USub e pos) (dNeg oa) := ⟨peImp (pe_un un_neg h.p) fun σ H Q ⟨G, ρ, F, Q', R, q, c⟩ => ⟨G, ρ, F, _, R, q, fun a ρ1 v H1 F1 h1 R1 s1 av => by
  obtain ⟨x, h2, d⟩ := res1_dr R1 av h1
  split at h2
  · rw [d.int]
    exact ⟨_, rfl, c _ _ _ _ _ h2 R1 s1 (.int _)⟩
  · exact False.elim h2⟩⟩
def tVal (t : TD) : TTd := fun ρ Q => t ρ fun x ρ1 => match x with
  | .bool b => Q b ρ1
  | _ => False
theorem LT.val [Pn] (h : LD X e ta) (he : ∀ whole, isTrue e X.env whole = (do let v ← whole; standAt e.pos; holding [v] (truthy v)) := by intro _; rfl) : LT X e (tVal ta) := ⟨ptImp (pt_val h.p he) fun σ H Q ⟨G, ρ, F, Q', R, q, c⟩ => ⟨G, ρ, F, _, R, q, fun x ρ1 v H1 F1 h1 R1 s1 d => by
  split at h1
  · cases d
    exact ⟨_, rfl, c _ _ _ _ h1 R1 s1⟩
  · exact False.elim h1⟩⟩
def brB (b : Bool) (p q : Prop) : Prop := (b = true → p) ∧ (b = false → q)
def tAndD (t u : TTd) : TTd := fun ρ Q => t ρ fun b ρ1 => brB b (u ρ1 Q) (Q false ρ1)
def tOrD (t u : TTd) : TTd := fun ρ Q => t ρ fun b ρ1 => brB b (Q true ρ1) (u ρ1 Q)
def tNotD (t : TTd) : TTd := fun ρ Q => t ρ fun b ρ1 => Q (!b) ρ1
theorem LW.and1 [Pn] (h : LT X e t) : LW X (.BoolOp .And [e] pos) t := ⟨pw_and1 h.p⟩
theorem LW.or1 [Pn] (h : LT X e t) : LW X (.BoolOp .Or [e] pos) t := ⟨pw_or1 h.p⟩
theorem LW.and [Pn] (h : LT X e t) (h2 : LW X (.BoolOp .And (e2 :: es) pos) u) : LW X (.BoolOp .And (e :: e2 :: es) pos) (tAndD t u) := ⟨pwImp (pw_and h.p h2.p) fun σ H Q ⟨G, ρ, F, Q', R, q, c⟩ => ⟨G, ρ, F, _, R, q, fun b ρ1 H1 F1 h1 R1 s1 => by
  cases b with
  | true => exact ⟨G, ρ1, F1, Q', R1, h1.1 rfl, fun b ρ2 H2 F2 h2 R2 s2 => c _ _ _ _ h2 R2 (s1.trans s2)⟩
  | false => exact c _ _ _ _ (h1.2 rfl) R1 s1⟩⟩
theorem LW.or [Pn] (h : LT X e t) (h2 : LW X (.BoolOp .Or (e2 :: es) pos) u) : LW X (.BoolOp .Or (e :: e2 :: es) pos) (tOrD t u) := ⟨pwImp (pw_or h.p h2.p) fun σ H Q ⟨G, ρ, F, Q', R, q, c⟩ => ⟨G, ρ, F, _, R, q, fun b ρ1 H1 F1 h1 R1 s1 => by
  cases b with
  | false => exact ⟨G, ρ1, F1, Q', R1, h1.2 rfl, fun b ρ2 H2 F2 h2 R2 s2 => c _ _ _ _ h2 R2 (s1.trans s2)⟩
  | true => exact c _ _ _ _ (h1.1 rfl) R1 s1⟩⟩
theorem LT.w [Pn] (h : LW X e t) : LT X e t := ⟨h.p.pt⟩
theorem LT.not [Pn] (h : LT X e t) : LT X (.UnaryOp .Not e pos) (tNotD t) := ⟨ptImp (pt_not h.p) fun σ H Q ⟨G, ρ, F, Q', R, q, c⟩ => ⟨G, ρ, F, _, R, q, fun b ρ1 H1 F1 h1 R1 s1 => c _ _ _ _ h1 R1 s1⟩⟩
def dAnd (ta tb : TD) : TD := fun ρ Q => ta ρ fun x ρ1 => match x with
  | .bool b => brB b (tb ρ1 Q) (Q (.bool false) ρ1)
  | _ => False
def dOr (ta tb : TD) : TD := fun ρ Q => ta ρ fun x ρ1 => match x with
  | .bool b => brB b (Q (.bool true) ρ1) (tb ρ1 Q)
  | _ => False
def dNot (ta : TD) : TD := fun ρ Q => ta ρ fun x ρ1 => match x with
  | .bool b => Q (.bool (!b)) ρ1
  | _ => False
theorem LD.one [Pn] {op : BoolOp} (h : LD X e ta) : LD X (.BoolOp op [e] pos) ta := ⟨pe_one h.p⟩
theorem LD.and [Pn] (h : LD X e ta) (h2 : LD X (.BoolOp .And (e2 :: es) pos) tb) : LD X (.BoolOp .And (e :: e2 :: es) pos) (dAnd ta tb) := ⟨peImp (pe_and h.p h2.p) fun σ H Q ⟨G, ρ, F, Q', R, q, c⟩ => ⟨G, ρ, F, _, R, q, fun x ρ1 v H1 F1 h1 R1 s1 d => by
  split at h1
  · rename_i b
    cases d
    refine ⟨b, rfl, ?_⟩
    cases b with
    | true => exact ⟨G, ρ1, F1, Q', R1, h1.1 rfl, fun x ρ2 v H2 F2 h2 R2 s2 d => c _ _ _ _ _ h2 R2 (s1.trans s2) d⟩
    | false => exact c _ _ _ _ _ (h1.2 rfl) R1 s1 (.bl _)
  · exact False.elim h1⟩⟩
theorem LD.or [Pn] (h : LD X e ta) (h2 : LD X (.BoolOp .Or (e2 :: es) pos) tb) : LD X (.BoolOp .Or (e :: e2 :: es) pos) (dOr ta tb) := ⟨peImp (pe_or h.p h2.p) fun σ H Q ⟨G, ρ, F, Q', R, q, c⟩ => ⟨G, ρ, F, _, R, q, fun x ρ1 v H1 F1 h1 R1 s1 d => by
  split at h1
  · rename_i b
    cases d
    refine ⟨b, rfl, ?_⟩
    cases b with
    | false => exact ⟨G, ρ1, F1, Q', R1, h1.2 rfl, fun x ρ2 v H2 F2 h2 R2 s2 d => c _ _ _ _ _ h2 R2 (s1.trans s2) d⟩
    | true => exact c _ _ _ _ _ (h1.1 rfl) R1 s1 (.bl _)
  · exact False.elim h1⟩⟩
theorem LD.not [Pn] (h : LD X e ta) : LD X (.UnaryOp .Not e pos) (dNot ta) := ⟨peImp (pe_not h.p) fun σ H Q ⟨G, ρ, F, Q', R, q, c⟩ => ⟨G, ρ, F, _, R, q, fun x ρ1 v H1 F1 h1 R1 s1 d => by
  split at h1
  · cases d
    exact ⟨_, rfl, c _ _ _ _ _ h1 R1 s1 (.bl _)⟩
  · exact False.elim h1⟩⟩
def dIte (t : TTd) (ta tb : TD) : TD := fun ρ Q => t ρ fun b ρ1 => brB b (ta ρ1 Q) (tb ρ1 Q)
theorem LD.ite [Pn] (h : LT X e t) (h2 : LD X e2 ta) (h3 : LD X e3 tb) : LD X (.IfExp e e2 e3 pos) (dIte t ta tb) := ⟨peImp (pe_ifExp h.p h2.p h3.p) fun σ H Q ⟨G, ρ, F, Q', R, q, c⟩ => ⟨G, ρ, F, _, R, q, fun b ρ1 H1 F1 h1 R1 s1 => by
  cases b with
  | true => exact ⟨G, ρ1, F1, Q', R1, h1.1 rfl, fun x ρ2 v H2 F2 h2 R2 s2 d => c _ _ _ _ _ h2 R2 (s1.trans s2) d⟩
  | false => exact ⟨G, ρ1, F1, Q', R1, h1.2 rfl, fun x ρ2 v H2 F2 h2 R2 s2 d => c _ _ _ _ _ h2 R2 (s1.trans s2) d⟩⟩⟩
def dChain (p p' : Int → Int → Bool) (oa ob oc : Op1) : TD := fun ρ Q => oa.run ρ fun a ρ1 => ob.run ρ1 fun b ρ2 => res1 ρ2 a fun x => res1 ρ2 b fun y => match x, y with
  | .int i, .int j => brB (p i j) (oc.run ρ2 fun cc ρ3 => res1 ρ3 cc fun z => (match z with
    | .int k => Q (.bool (p' j k)) ρ3
    | _ => False)) (Q (.bool false) ρ2)
  | _, _ => False
theorem tChain_of [Pn] {p p' : Int → Int → Bool} {Q : VK} (h : liftD K (dChain p p' oa ob oc) σ H Q) : tChain (rI0 fun i j => .bl (p i j)) (rI0 fun i j => .bl (p' i j)) (liftO K oa) (liftO K ob) (liftO K oc) σ H Q :=
  let ⟨G, ρ, F, Q', R, q, c⟩ := h
  ⟨G, ρ, F, _, R, q, fun a ρ1 vx H1 F1 h1 R1 s1 ax => ⟨G, ρ1, F1, _, R1, h1, fun b ρ2 vy H2 F2 h2 R2 s2 ay => by
    obtain ⟨x, h3, dx⟩ := res1_dr R2 (ax.mono s2) h2
    obtain ⟨y, h4, dy⟩ := res1_dr R2 ay h3
    split at h4
    · rename_i i j
      rw [dx.int, dy.int]
      refine ⟨i, j, rfl, rfl, _, rfl, ?_⟩
      cases hp : p i j with
      | true =>
        replace h4 := h4.1 hp
        refine iteT ⟨G, ρ2, F2, _, R2, h4, fun cc ρ3 vz H3 F3 h5 R3 s3 az => ?_⟩
        obtain ⟨z, h6, dz⟩ := res1_dr R3 az h5
        split at h6
        · rw [dz.int]
          exact ⟨_, _, rfl, rfl, c _ _ _ _ _ h6 R3 ((s1.trans s2).trans s3) (.bl _)⟩
        · exact False.elim h6
      | false =>
        replace h4 := h4.2 hp
        exact iteF (c _ _ _ _ _ h4 R2 (s1.trans s2) (.bl _))
    · exact False.elim h4⟩⟩
theorem LD.chain [Pn] {op op' : CmpOp} {p p' : Int → Int → Bool} (ho : OpR X (compareOp op) (rI0 fun i j => .bl (p i j))) (ho' : OpR X (compareOp op') (rI0 fun i j => .bl (p' i j))) (ha : LO X e oa) (hb : LO X e2 ob) (hc : LO X e3 oc)
    (hm : lastMarks [op, op'] [e2, e3] = false := by with_unfolding_all rfl) : LD X (.Compare e [op, op'] [e2, e3] pos) (dChain p p' oa ob oc) :=
  ⟨peImp (pe_chain ho ho' ha.p hb.p hc.p hm) fun _ _ _ h => tChain_of h⟩
abbrev FN := List PD → (PD → Prop) → Prop
def BiOk (K : PySem.W.Frag) (f : FN) (r : List V → Hp → VK → Prop) : Prop := ∀ (F H : Hp) (vs : List V) (xs : List PD) (k : PD → Prop) (Q : VK), Same F H → DrA K F H vs xs → f xs k →
  (∀ z v F' H', k z → Grow F H F' H' → Df K F' v z → Q v H') → r vs H Q
def dBi (f : FN) (t : TAd) : TD := fun ρ Q => t ρ fun as ρ1 => resA ρ1 as fun xs => f xs fun z => Q z ρ1
variable {g : FN} {rr : List V → Hp → VK → Prop} {tt : TAd} {x : Str} {p : Pos} {bid T : String}
theorem tCB_of [Pn] (hf : BiOk K g rr) {n : Nat} {Q : VK} (h : liftD K (dBi g tt) σ H Q) : tCB rr (liftA K n tt) σ H Q := by
  obtain ⟨G, ρ, F, Q', R, q, c⟩ := h
  refine ⟨G, ρ, F, _, R, q, fun as ρ1 vs H1 F1 h1 hl R1 s1 av => ?_⟩
  obtain ⟨xs, h2, d⟩ := resA_dr R1 av h1
  exact hf F1 H1 vs xs _ Q R1.fh d h2 fun z v F' H' kz g' d' => c _ _ _ _ _ kz (R1.grow g') (s1.trans g'.ff) d'
theorem LD.bi [Pn] (hc : CallR X (.builtin bid) rr) (hf : BiOk X.K g rr) (hg : Gl X x) (hm : X.mg x = none) (hv : bootBuiltins x = some (.builtin bid)) (ha : LA X (e :: es) tt) (hn : x ≠ "__name__" := by decide) (hdb : (x == ("__debug__" : Str)) = false := by decide)
    (he : starEach (e :: es) X.env = (false, eval e X.env) :: starEach es X.env := by rfl) (hpl : (backTo pos (starEach es X.env)).any (·.1) = false := by rfl) :
    LD X (.Call (.Name x p) (e :: es) [] pos) (dBi g tt) := ⟨peImp (pe_callB hc hg hm hv ha.p hn hdb he hpl) fun _ _ _ h => tCB_of hf h⟩
theorem LD.bt [Pn] (hc : CallR X (.type T) rr) (hf : BiOk X.K g rr) (hg : Gl X x) (hm : X.mg x = none) (hv : bootBuiltins x = some (.type T)) (ha : LA X (e :: es) tt) (hn : x ≠ "__name__" := by decide) (hdb : (x == ("__debug__" : Str)) = false := by decide)
    (he : starEach (e :: es) X.env = (false, eval e X.env) :: starEach es X.env := by rfl) (hpl : (backTo pos (starEach es X.env)).any (·.1) = false := by rfl) :
    LD X (.Call (.Name x p) (e :: es) [] pos) (dBi g tt) := ⟨peImp (pe_callTy hc hg hm hv ha.p hn hdb he hpl) fun _ _ _ h => tCB_of hf h⟩
theorem DrA.one {vs : List V} {x : PD} (h : DrA K F H vs [x]) : ∃ v, vs = [v] ∧ Dr K F H v x := by
  cases h with | cons a b => cases b; exact ⟨_, rfl, a⟩
theorem DrA.two {vs : List V} {x y : PD} (h : DrA K F H vs [x, y]) : ∃ v u, vs = [v, u] ∧ Dr K F H v x ∧ Dr K F H u y := by
  cases h with | cons a b => cases b with | cons b c => cases c; exact ⟨_, _, rfl, a, b⟩
def bLen : FN
  | [.list xs], k => k (.int (xs.length : Int))
  | [.tuple xs], k => k (.int (xs.length : Int))
  | [.str s], k => s.length ≤ sizeLine ∧ k (.int (s.length : Int))
  | _, _ => False
def rLenD (K : PySem.W.Frag) : List V → Hp → VK → Prop := fun xs H Q => (∃ p ys, xs = [.ref p] ∧ (SqL K H p ys ∨ SqT K H p ys) ∧ Q (.int ys.length) H) ∨ (∃ z, xs = [.str z] ∧ z.length ≤ sizeLine ∧ Q (.int z.length) H)
theorem call_lenU : CallR X (.builtin "len") (rLenD X.K) := fun pins s σ H xs us Q I r h => h.elim (fun h => call_len_seq pins s σ H xs us Q I r h) fun h => call_len_str pins s σ H xs us Q I r h
theorem ok_len : BiOk K bLen (rLenD K) := by
  intro F H vs xs k Q s d h c
  unfold bLen at h
  split at h
  · obtain ⟨v, rfl, d1⟩ := d.one
    obtain ⟨a, us, rfl, q, d3⟩ := d1.lst s
    refine .inl ⟨a, us, rfl, .inl (rdSq q), ?_⟩
    rw [d3.length]
    exact c _ _ F H h (Grow.refl s) (.int _)
  · obtain ⟨v, rfl, d1⟩ := d.one
    obtain ⟨a, us, rfl, q, d3⟩ := d1.tup s
    refine .inl ⟨a, us, rfl, .inr q, ?_⟩
    rw [d3.length]
    exact c _ _ F H h (Grow.refl s) (.int _)
  · obtain ⟨v, rfl, d1⟩ := d.one
    rw [d1.str]
    exact .inr ⟨_, rfl, h.1, c _ _ F H h.2 (Grow.refl s) (.int _)⟩
  · exact False.elim h
def bAbs : FN
  | [.int i], k => k (.int (if i < 0 then -i else i))
  | _, _ => False
theorem ok_abs : BiOk K bAbs (fun xs H Q => ∃ i, xs = [.int i] ∧ Q (.int (if i < 0 then -i else i)) H) := by
  intro F H vs xs k Q s d h c
  unfold bAbs at h
  split at h
  · obtain ⟨v, rfl, d1⟩ := d.one
    rw [d1.int]
    exact ⟨_, rfl, c _ _ F H h (Grow.refl s) (.int _)⟩
  · exact False.elim h
def bInt : FN
  | [.int i], k => k (.int i)
  | [.bool b], k => k (.int (if b then 1 else 0))
  | _, _ => False
theorem ok_int : BiOk K bInt (fun xs H Q => (∃ i, xs = [.int i] ∧ Q (.int i) H) ∨ ∃ k, xs = [.bl k] ∧ Q (.int (if k then 1 else 0)) H) := by
  intro F H vs xs k Q s d h c
  unfold bInt at h
  split at h
  · obtain ⟨v, rfl, d1⟩ := d.one
    rw [d1.int]
    exact .inl ⟨_, rfl, c _ _ F H h (Grow.refl s) (.int _)⟩
  · obtain ⟨v, rfl, d1⟩ := d.one
    rw [d1.bl]
    exact .inr ⟨_, rfl, c _ _ F H h (Grow.refl s) (.int _)⟩
  · exact False.elim h
def bMax2 : FN
  | [.int i, .int j], k => k (.int (if j > i then j else i))
  | _, _ => False
def bMin2 : FN
  | [.int i, .int j], k => k (.int (if j < i then j else i))
  | _, _ => False
theorem ok_max2 : BiOk K bMax2 (fun xs H Q => ∃ i j, xs = [.int i, .int j] ∧ Q (.int (if j > i then j else i)) H) := by
  intro F H vs xs k Q s d h c
  unfold bMax2 at h
  split at h
  · obtain ⟨v, u, rfl, d1, d2⟩ := d.two
    rw [d1.int, d2.int]
    exact ⟨_, _, rfl, c _ _ F H h (Grow.refl s) (.int _)⟩
  · exact False.elim h
theorem ok_min2 : BiOk K bMin2 (fun xs H Q => ∃ i j, xs = [.int i, .int j] ∧ Q (.int (if j < i then j else i)) H) := by
  intro F H vs xs k Q s d h c
  unfold bMin2 at h
  split at h
  · obtain ⟨v, u, rfl, d1, d2⟩ := d.two
    rw [d1.int, d2.int]
    exact ⟨_, _, rfl, c _ _ F H h (Grow.refl s) (.int _)⟩
  · exact False.elim h
def bSum : FN
  | [.list xs], k => ∃ ns : List Int, xs = ns.map .int ∧ k (.int ns.sum)
  | _, _ => False
theorem dfa_ints {vs : List V} {ns : List Int} (h : DfA K F vs (ns.map .int)) : vs = ns.map V.int := by
  induction ns generalizing vs with
  | nil => cases h; rfl
  | cons n r ih =>
    cases h with
    | cons a b => cases a; rw [ih b]; rfl
theorem dfa_bools {vs : List V} {ns : List Bool} (h : DfA K F vs (ns.map .bool)) : vs = ns.map V.bl := by
  induction ns generalizing vs with
  | nil => cases h; rfl
  | cons n r ih =>
    cases h with
    | cons a b => cases a; rw [ih b]; rfl
theorem Dr.intList {v : V} {ns : List Int} (s : Same F H) (h : Dr K F H v (.list (ns.map .int))) : ∃ a, v = .ref a ∧ SqL K H a (ns.map V.int) := by
  obtain ⟨a, vs, rfl, q, d⟩ := h.lst s
  rw [dfa_ints d] at q
  exact ⟨a, rfl, rdSq q⟩
theorem ok_sum : BiOk K bSum (rSum K) := by
  intro F H vs xs k Q s d h c
  unfold bSum at h
  split at h
  · obtain ⟨v, rfl, d1⟩ := d.one
    obtain ⟨ns, rfl, h⟩ := h
    obtain ⟨a, rfl, q⟩ := d1.intList s
    exact ⟨a, ns, rfl, q, c _ _ F H h (Grow.refl s) (.int _)⟩
  · exact False.elim h
def bAll : FN
  | [.list xs], k => ∃ bs : List Bool, xs = bs.map .bool ∧ k (.bool (bs.all id))
  | _, _ => False
theorem ok_all : BiOk K bAll (rAll K) := by
  intro F H vs xs k Q s d h c
  unfold bAll at h
  split at h
  · obtain ⟨v, rfl, d1⟩ := d.one
    obtain ⟨bs, rfl, h⟩ := h
    obtain ⟨a, us, rfl, q, d3⟩ := d1.lst s
    rw [dfa_bools d3] at q
    exact ⟨a, bs, rfl, rdSq q, c _ _ F H h (Grow.refl s) (.bl _)⟩
  · exact False.elim h
def bTuple : FN
  | [.list xs], k => k (.tuple xs)
  | [.tuple xs], k => k (.tuple xs)
  | _, _ => False
theorem ok_tuple : BiOk K bTuple (fun xs H Q => ∃ p ys, xs = [.ref p] ∧ ((SqL K H p ys ∧ ∀ l, H l = none → Q (.ref l) (upd H l (.tup ys))) ∨ (SqT K H p ys ∧ Q (.ref p) H))) := by
  intro F H vs xs k Q s d h c
  unfold bTuple at h
  split at h
  · obtain ⟨v, rfl, d1⟩ := d.one
    obtain ⟨a, us, rfl, q, d3⟩ := d1.lst s
    refine ⟨a, us, rfl, .inl ⟨rdSq q, fun l hl => ?_⟩⟩
    have g := Grow.frozen s hl (.tup us)
    exact c _ _ _ _ h g (.tup (SqT.of upd_same) (d3.mono g.ff))
  · obtain ⟨v, rfl, d1⟩ := d.one
    obtain ⟨a, us, rfl, q, d3⟩ := d1.tup s
    cases d1 with
    | f d => exact ⟨a, us, rfl, .inr ⟨q, c _ _ F H h (Grow.refl s) d⟩⟩
  · exact False.elim h
def fList (t : TAd) : TF := fun ρ Q => t ρ fun as ρ1 => resA ρ1 as fun xs => match xs with
  | [.list ys] => Q (.ls none ys) ρ1
  | [.tuple ys] => Q (.ls none ys) ρ1
  | _ => False
theorem LF.list [Pn] (hg : Gl X "list") (hm : X.mg "list" = none) (ha : LA X (e :: es) tt)
    (he : starEach (e :: es) X.env = (false, eval e X.env) :: starEach es X.env := by rfl) (hpl : (backTo pos (starEach es X.env)).any (·.1) = false := by rfl) :
    LF X (.Call (.Name "list" p) (e :: es) [] pos) (fList tt) := ⟨peImp (pe_callTy call_list_of hg hm (by decide +kernel) ha.p (by decide) (by decide) he hpl) fun σ H Q ⟨G, ρ, F, Q', R, q, c⟩ => ⟨G, ρ, F, _, R, q, fun as ρ1 vs H1 F1 h1 hl R1 s1 av => by
  obtain ⟨xs, h2, d⟩ := resA_dr R1 av h1
  split at h2
  · obtain ⟨v, rfl, d1⟩ := d.one
    obtain ⟨a, us, rfl, q, d3⟩ := d1.lst R1.fh
    refine ⟨a, us, rfl, .inl (rdSq q), fun l hl => ?_⟩
    obtain ⟨R2, k⟩ := fresh_ok (l := .ls none _) (o := .lst us) R1 hl d3 rfl
    exact c _ _ _ _ _ h2 R2 s1 k
  · obtain ⟨v, rfl, d1⟩ := d.one
    obtain ⟨a, us, rfl, q, d3⟩ := d1.tup R1.fh
    refine ⟨a, us, rfl, .inr q, fun l hl => ?_⟩
    obtain ⟨R2, k⟩ := fresh_ok (l := .ls none _) (o := .lst us) R1 hl d3 rfl
    exact c _ _ _ _ _ h2 R2 s1 k
  · exact False.elim h2⟩⟩
def isTy (T : String) : PD → Bool
  | .none => false
  | .bool _ => T == "bool" || T == "int"
  | .int _ => T == "int"
  | .str _ => T == "str"
  | .list _ => T == "list"
  | .tuple _ => T == "tuple"
  | .dict _ => false
def tyD : PD → String
  | .none => "NoneType"
  | .bool _ => "bool"
  | .int _ => "int"
  | .str _ => "str"
  | .list _ => "list"
  | .tuple _ => "tuple"
  | .dict _ => "dict"
def plainD : PD → Bool
  | .dict _ => false
  | _ => true
def dIsi (T : String) (o : Op1) : TD := fun ρ Q => o.run ρ fun a ρ1 => res1 ρ1 a fun x => plainD x = true ∧ Q (.bool (isTy T x)) ρ1
theorem tyx_of {v : V} {x : PD} (h : Df K H v x) (hd : plainD x = true) : TyX K H v (.type (tyD x)) := by
  cases h with
  | non => exact .base .non
  | bl b => exact .base (.bl b)
  | int i => exact .base (.int i)
  | str i => exact .base (.str i)
  | lst q _ =>
    rcases q with q | ⟨o, q⟩
    · exact .base (.lst q)
    · exact .base (.frz q)
  | tup q _ =>
    rcases q with (q | ⟨o, q⟩) | ⟨o, its, n, q, cl, _⟩
    · exact .base (.tup q)
    · exact .fTuple q
    · exact .kTuple q cl
  | dk _ _ => cases hd
  | ins _ _ => cases hd
  | ex0 => cases hd
  | ex1 _ _ => cases hd
  | dkL _ _ => cases hd
  | ky _ => cases hd
theorem kit_all {x : PD} {T : String} (hT : T = "int" ∨ T = "bool" ∨ T = "str" ∨ T = "tuple" ∨ T = "list") (hd : plainD x = true) : PySem.W.kitOne K (.type (tyD x)) (.type T) = some (isTy T x) := by
  refine kit_ty ?_
  cases x <;> first | (cases hd; done) | skip
  all_goals (rcases hT with rfl | rfl | rfl | rfl | rfl <;> (dsimp only [tyD, isTy]; decide +kernel))
theorem LD.isi [Pn] {y : Str} {p2 : Pos} (T : String) (hT : T = "int" ∨ T = "bool" ∨ T = "str" ∨ T = "tuple" ∨ T = "list") (hg : Gl X "isinstance") (hm : X.mg "isinstance" = none) (hgT : Gl X y) (hmT : X.mg y = none) (hvT : bootBuiltins y = some (.type T)) (h : LO X e oa)
    (he : starEach [e, .Name y p2] X.env = (false, eval e X.env) :: starEach [.Name y p2] X.env := by rfl) (hpl : (backTo pos (starEach [.Name y p2] X.env)).any (·.1) = false := by rfl) (he2 : starEach [.Name y p2] X.env = (false, eval (.Name y p2) X.env) :: starEach [] X.env := by rfl)
    (hn : y ≠ "__name__" := by decide) (hdb : (y == ("__debug__" : Str)) = false := by decide) :
    LD X (.Call (.Name "isinstance" p) [e, .Name y p2] [] pos) (dIsi T oa) :=
  ⟨peImp (pe_callB call_isi hg hm (by decide +kernel) (pa_cons h.p (pa_cons (pe_bltn (v := .ty T) hgT hmT hvT rfl hn hdb) pa_nil he2) he) (by decide) (by decide) he hpl) fun σ H Q ⟨G, ρ, F, Q', R, q, c⟩ => ⟨G, ρ, F, _, R, q, fun a ρ1 v H1 F1 h1 R1 s1 av => by
    obtain ⟨x, ⟨hd, h2⟩, d⟩ := res1_dr R1 av h1
    exact ⟨v, .ty T, _, _, _, rfl, .ty T, tyx_of (d.df R1.fh) hd, kit_all hT hd, c _ _ _ _ _ h2 R1 s1 (.bl _)⟩⟩⟩
def bIx : F2
  | .list xs, .int i, k => ∃ d, atI xs i = some d ∧ k d
  | .tuple xs, .int i, k => ∃ d, atI xs i = some d ∧ k d
  | .str z, .int i, k => z.length ≤ sizeLine ∧ ∃ c, atI z.cps.toList i = some c ∧ k (.str ⟨#[c]⟩)
  | _, _, _ => False
theorem atI_df {vs : List V} {xs : List PD} {d : PD} {i : Int} (h : DfA K F vs xs) (e : atI xs i = some d) : ∃ v, atI vs i = some v ∧ Df K F v d := by
  unfold atI at e ⊢
  rw [h.length]
  cases q : ixN xs.length i with
  | none => rw [q] at e; cases e
  | some j =>
    rw [q] at e
    obtain ⟨v, h1, h2⟩ := h.get (i := j) e
    exact ⟨v, h1, h2⟩
theorem ok_ix : Op2Ok K bIx (rIx K) := by
  intro F H vx vy x y k Q s dx dy h c
  unfold bIx at h
  split at h
  · obtain ⟨a, vs, rfl, q, d⟩ := dx.lst s
    obtain ⟨z, h1, h2⟩ := h
    obtain ⟨v, h3, h4⟩ := atI_df d h1
    rw [dy.int]
    exact .inl ⟨a, vs, _, v, rfl, rfl, rdSq q, h3, c _ _ F H h2 (Grow.refl s) h4⟩
  · obtain ⟨a, vs, rfl, q, d⟩ := dx.tup s
    obtain ⟨z, h1, h2⟩ := h
    obtain ⟨v, h3, h4⟩ := atI_df d h1
    rw [dy.int]
    exact .inr (.inl ⟨a, vs, _, v, rfl, rfl, q, h3, c _ _ F H h2 (Grow.refl s) h4⟩)
  · obtain ⟨h0, z, h1, h2⟩ := h
    rw [dx.str, dy.int]
    exact .inr (.inr ⟨_, _, z, rfl, rfl, h0, h1, c _ _ F H h2 (Grow.refl s) (.str _)⟩)
  · exact False.elim h
theorem LD.ix [Pn] (ha : LO X e oa) (hb : LO X e2 ob) (hs : PlainIx e2) : LD X (.Subscript e e2 pos) (dBin bIx oa ob) := ⟨peImp (pe_ix ix_seq ha.p hb.p hs) fun _ _ _ h => tOp_of ok_ix h⟩
abbrev TPd := En → (Option Int → En → Prop) → Prop
def pNone : TPd := fun ρ Q => Q none ρ
def pSome (o : Op1) : TPd := fun ρ Q => o.run ρ fun a ρ1 => res1 ρ1 a fun x => match x with
  | .int i => Q (some i) ρ1
  | _ => False
def liftP [Pn] (K : PySem.W.Frag) (t : TPd) : TO := fun σ H Q => ∃ G ρ F Q', Rel K G ρ F σ H ∧ t ρ Q' ∧ ∀ i ρ' H' F', Q' i ρ' → Rel K G ρ' F' σ H' → Same F F' → Q i H'
structure LP [Pn] (X : Cx) (e : Option Expr) (t : TPd) : Prop where
  p : PO X e (liftP X.K t)
theorem poImp {e : Option Expr} {t t' : TO} (h : PO X e t) (w : ∀ σ H Q, t' σ H Q → t σ H Q) : PO X e t' := ⟨fun pins s σ H Q I q => h.run pins s σ H Q I (w _ _ _ q)⟩
theorem LP.none [Pn] : LP X none pNone := ⟨poImp po_none fun σ H Q ⟨G, ρ, F, Q', R, q, c⟩ => c _ _ _ F q R (Same.refl _)⟩
theorem LP.some [Pn] (h : LO X e oa) : LP X (some e) (pSome oa) := ⟨poImp (po_some h.p) fun σ H Q ⟨G, ρ, F, Q', R, q, c⟩ => ⟨G, ρ, F, _, R, q, fun a ρ1 v H1 F1 h1 R1 s1 av => by
  obtain ⟨x, h2, d⟩ := res1_dr R1 av h1
  split at h2
  · rw [d.int]
    exact ⟨_, rfl, c _ _ _ _ h2 R1 s1⟩
  · exact False.elim h2⟩⟩
def cutD {α : Type} (xs : List α) (lo hi : Option Int) : List α := (xs.drop (HT.sIx xs.length 0 lo)).take (HT.sIx xs.length xs.length hi - HT.sIx xs.length 0 lo)
def dSl (oa : Op1) (lo hi : TPd) : TD := fun ρ Q => oa.run ρ fun a ρ1 => lo ρ1 fun i ρ2 => hi ρ2 fun j ρ3 => res1 ρ3 a fun x => match x with
  | .list xs => Q (.list (cutD xs i j)) ρ3
  | .tuple xs => Q (.tuple (cutD xs i j)) ρ3
  | .str z => z.length ≤ sizeLine ∧ Q (.str (cutS z i j)) ρ3
  | _ => False
theorem cut_df {vs : List V} {xs : List PD} (h : DfA K F vs xs) (i j : Option Int) : DfA K F (cutV vs i j) (cutD xs i j) := by
  unfold cutV cutD
  rw [h.length]
  exact (h.drop _).take _
theorem cut_whole {α : Type} {xs : List α} {i j : Option Int} (h : HT.sIx xs.length 0 i = 0 ∧ HT.sIx xs.length xs.length j = xs.length) : cutD xs i j = xs := by
  unfold cutD
  rw [h.1, h.2, List.drop_zero, Nat.sub_zero, List.take_length]
theorem LD.sl [Pn] {lo hi : Option Expr} {tl th : TPd} {p2 : Pos} (ha : LO X e oa) (hl : LP X lo tl) (hh : LP X hi th) : LD X (.Subscript e (.Slice lo hi none p2) pos) (dSl oa tl th) :=
  ⟨peImp (pe_slice (sl_list.or (sl_tupA.or sl_str)) ha.p hl.p hh.p) fun σ H Q ⟨G, ρ, F, Q', R, q, c⟩ => ⟨G, ρ, F, _, R, q, fun a ρ1 v H1 F1 h1 R1 s1 av => ⟨G, ρ1, F1, _, R1, h1, fun i ρ2 H2 F2 h2 R2 s2 => ⟨G, ρ2, F2, _, R2, h2, fun j ρ3 H3 F3 h3 R3 s3 => by
    obtain ⟨x, h4, d⟩ := res1_dr R3 (av.mono (s2.trans s3)) h3
    have s := (s1.trans s2).trans s3
    split at h4
    · obtain ⟨b, vs, rfl, q, d'⟩ := d.lst R3.fh
      refine .inl ⟨b, vs, rfl, rdSq q, fun p hp => ?_⟩
      have g := Grow.frozen R3.fh hp (.lst (cutV vs i j))
      exact c _ _ _ _ _ h4 (R3.grow g) (s.trans g.ff) (.lst (.inl upd_same) ((cut_df d' i j).mono g.ff))
    · obtain ⟨b, vs, rfl, q, d'⟩ := d.tup R3.fh
      refine .inr (.inl ⟨b, vs, rfl, q, fun hw => ?_, fun _ p hp => ?_⟩)
      · have e1 : cutD _ i j = _ := cut_whole (xs := ‹List PD›) (by rw [← d'.length]; exact hw)
        rw [e1] at h4
        cases d with
        | f d => exact c _ _ _ _ _ h4 R3 s d
      · have g := Grow.frozen R3.fh hp (.tup (cutV vs i j))
        exact c _ _ _ _ _ h4 (R3.grow g) (s.trans g.ff) (.tup (SqT.of upd_same) ((cut_df d' i j).mono g.ff))
    · rw [d.str]
      exact .inr (.inr ⟨_, rfl, h4.1, c _ _ _ _ _ h4.2 R3 s (.str _)⟩)
    · exact False.elim h4⟩⟩⟩⟩
end
end DL
namespace DL
open PySem L2 PyProof.Rows
structure DE where
  nx : En → Prop
  rt : Lc → En → Prop
  bk : En → Prop := fun _ => False
  ct : En → Prop := fun _ => False
abbrev TSt := DE → En → Prop
structure CtOk [Pn] (K : PySem.W.Frag) (G : Gm) (F : Hp) (D' : DE) (D : Ends) : Prop where
  nx : ∀ ρ σ H F', D'.nx ρ → Rel K G ρ F' σ H → Same F F' → D.nx σ H
  rt : ∀ l ρ v σ H F', D'.rt l ρ → Rel K G ρ F' σ H → Same F F' → RsOk K G F' H ρ σ l v → D.rt v H
  bk : ∀ ρ σ H F', D'.bk ρ → Rel K G ρ F' σ H → Same F F' → D.bk σ H
  ct : ∀ ρ σ H F', D'.ct ρ → Rel K G ρ F' σ H → Same F F' → D.ct σ H
theorem CtOk.mono [Pn] {K : PySem.W.Frag} {G : Gm} {F F' : Hp} {D' : DE} {D : Ends} (c : CtOk K G F D' D) (s : Same F F') : CtOk K G F' D' D :=
  ⟨fun ρ σ H F2 h R s2 => c.nx ρ σ H F2 h R (s.trans s2), fun l ρ v σ H F2 h R s2 r => c.rt l ρ v σ H F2 h R (s.trans s2) r, fun ρ σ H F2 h R s2 => c.bk ρ σ H F2 h R (s.trans s2), fun ρ σ H F2 h R s2 => c.ct ρ σ H F2 h R (s.trans s2)⟩
def liftS [Pn] (K : PySem.W.Frag) (t : TSt) : TS := fun D σ H => ∃ G ρ F D', Rel K G ρ F σ H ∧ t D' ρ ∧ CtOk K G F D' D
structure LS [Pn] (X : Cx) (st : Stmt) (t : TSt) : Prop where
  p : PS X st (liftS X.K t)
structure LSs [Pn] (X : Cx) (st : List Stmt) (t : TSt) : Prop where
  p : PSs X st (liftS X.K t)
section
variable {G : Gm} {X : Cx} {K : PySem.W.Frag} {F F' H H' : Hp} {ρ : En} {σ : L2.St} {e e2 e3 : Expr} {es : List Expr} {pos : Pos} {oa ob oc : Op1} {ta tb : TD} {c : TTd} {st : Stmt} {sts sts2 : List Stmt} {t u : TSt} {tf tf2 : TF}
def sNext : TSt := fun D ρ => D.nx ρ
def force : En → (En → Prop) → Prop
  | [], k => k []
  | a :: r, k => force r fun r' => k (a :: r')
theorem force_eq : ∀ (ρ : En) (k : En → Prop), force ρ k = k ρ
  | [], _ => rfl
  | a :: r, k => force_eq r fun r' => k (a :: r')
def sSeq (t u : TSt) : TSt := fun D ρ => t { D with nx := fun ρ' => force ρ' fun ρ'' => u D ρ'' } ρ
theorem LSs.nil [Pn] : LSs X [] sNext := ⟨pssImp pss_nil fun D σ H ⟨G, ρ, F, D', R, h, k⟩ => k.nx _ _ _ _ h R (Same.refl _)⟩
theorem LSs.cons [Pn] (h1 : LS X st t) (h2 : LSs X sts u) : LSs X (st :: sts) (sSeq t u) := ⟨pssImp (pss_cons h1.p h2.p) fun D σ H ⟨G, ρ, F, D', R, h, k⟩ =>
  ⟨G, ρ, F, _, R, h, ⟨fun ρ1 σ1 H1 F1 h1 R1 s1 => ⟨G, ρ1, F1, D', R1, (by have h1 : force ρ1 (fun ρ'' => u D' ρ'') := h1; rw [force_eq] at h1; exact h1), k.mono s1⟩, k.rt, k.bk, k.ct⟩⟩⟩
theorem LSs.one [Pn] (h1 : LS X st t) : LSs X [st] t := ⟨pss_one h1.p⟩
def sBrk : TSt := fun D ρ => D.bk ρ
theorem LS.brk [Pn] : LS X (.Break pos) sBrk := ⟨psImp ps_break fun D σ H ⟨G, ρ, F, D', R, h, k⟩ => k.bk _ _ _ _ h R (Same.refl _)⟩
def sDrop (t : TD) : TSt := fun D ρ => t ρ fun _ ρ1 => D.nx ρ1
theorem LS.drop [Pn] (h : LD X e ta) (hs : swapsWith e none pos.line X.env = pure false := by rfl) : LS X (.Expr e pos) (sDrop ta) := ⟨psImp (ps_expr h.p hs) fun D σ H ⟨G, ρ, F, D', R, q, k⟩ =>
  ⟨G, ρ, F, _, R, q, fun x ρ1 v H1 F1 h1 R1 s1 _ => k.nx _ _ _ _ h1 R1 s1⟩⟩
def sRet (t : TF) : TSt := fun D ρ => t ρ D.rt
theorem LS.ret [Pn] (h : LF X e tf) : LS X (.Return (some e) pos) (sRet tf) := ⟨psImp (ps_ret h.p) fun D σ H ⟨G, ρ, F, D', R, q, k⟩ =>
  ⟨G, ρ, F, _, R, q, fun l ρ1 v H1 F1 h1 R1 s1 r1 => k.rt _ _ _ _ _ _ h1 R1 s1 r1⟩⟩
def sRetV (i : Nat) : TSt := fun D ρ => match ρ[i]? with
  | some (some (.d x)) => D.rt (.d x) ρ
  | some (some l) => if (l.own && l.tag.isNone) = true then D.rt l (ρ.set i none) else False
  | _ => False
theorem Rel.leave [Pn] {i : Nat} {l : Lc} {a : Addr} (R : Rel K G ρ F σ H) (er : ρ[i]? = some (some l)) (ho : l.own = true) (es : σ[i]? = some (some (.ref a))) : Frs K G F H (ρ.set i none) σ l a := by
  have sub : ∀ (j : Nat) (m : Lc), (ρ.set i none)[j]? = some (some m) → ρ[j]? = some (some m) ∧ j ≠ i := fun j m e => by
    rcases set_get e with ⟨_, _, w⟩ | ⟨hj, e⟩
    · cases w
    · exact ⟨e, hj⟩
  refine ⟨fun j m e hm z => (sub j m e).2 (R.ds j i m l _ (sub j m e).1 er hm ho z es), (R.noN_at er ho es).drop i, fun b xs hb => ?_⟩
  obtain ⟨n1, n2⟩ := R.ns i l b xs er hb
  exact ⟨n1, fun e => (n2 i l er).1 ho (by rw [es, e]), fun j m e hm => (n2 j m (sub j m e).1).1 hm, fun j m ys e hy => (sub j m e).2 ((n2 j m (sub j m e).1).2 ys hy)⟩
theorem LS.retV [Pn] (i : Nat) (h : PE X e (tVar i)) : LS X (.Return (some e) pos) (sRetV i) := ⟨psImp (ps_ret h) fun D σ H ⟨G, ρ, F, D', R, q, k⟩ => by
  unfold sRetV at q
  split at q
  · rename_i x er
    obtain ⟨v, e1, d⟩ := R.sl i _ er
    exact ⟨v, e1, k.rt _ _ _ _ _ _ q R (Same.refl _) d⟩
  · rename_i l nd er
    split at q
    · rename_i hz
      rw [Bool.and_eq_true] at hz
      have ht : l.tag = none := by simpa using hz.2
      obtain ⟨a, es, at_⟩ := R.at_ er hz.1
      have fr : Frs X.K G F H (ρ.set i none) σ l a := by
        have sub : ∀ (j : Nat) (m : Lc), (ρ.set i none)[j]? = some (some m) → ρ[j]? = some (some m) ∧ j ≠ i := fun j m e => by
          rcases set_get e with ⟨_, _, w⟩ | ⟨hj, e⟩
          · cases w
          · exact ⟨e, hj⟩
        refine ⟨fun j m e hm z => (sub j m e).2 (R.ds j i m l _ (sub j m e).1 er hm hz.1 z es), (R.noN_at er hz.1 es).drop i, fun b xs hb => ?_⟩
        obtain ⟨n1, n2⟩ := R.ns i l b xs er hb
        exact ⟨n1, fun e => (n2 i l er).1 hz.1 (by rw [es, e]), fun j m e hm => (n2 j m (sub j m e).1).1 hm, fun j m ys e hy => (sub j m e).2 ((n2 j m (sub j m e).1).2 ys hy)⟩
      refine ⟨_, es, k.rt l _ _ _ _ _ q (R.drop i) (Same.refl _) ?_⟩
      cases l with
      | d x => exact absurd rfl (nd x)
      | sc u => simp [Lc.own] at hz
      | _ => exact ⟨a, rfl, ht, at_, fr⟩
    · exact False.elim q
  · exact False.elim q⟩
def sIf (c : TTd) (t u : TSt) : TSt := fun D ρ => c ρ fun b ρ1 => brB b (t D ρ1) (u D ρ1)
theorem LS.ite [Pn] (h : LT X e c) (h1 : LSs X sts t) (h2 : LSs X sts2 u) : LS X (.If e sts sts2 pos) (sIf c t u) := ⟨psImp (ps_if h.p h1.p h2.p) fun D σ H ⟨G, ρ, F, D', R, q, k⟩ =>
  ⟨G, ρ, F, _, R, q, fun b ρ1 H1 F1 h1 R1 s1 => by
    cases b with
    | true => exact ⟨G, ρ1, F1, D', R1, h1.1 rfl, k.mono s1⟩
    | false => exact ⟨G, ρ1, F1, D', R1, h1.2 rfl, k.mono s1⟩⟩⟩
def sAsg (i : Nat) (t : TF) : TSt := fun D ρ => t ρ fun l ρ1 => D.nx (ρ1.set i (some l))
theorem RsOk.slot {l : Lc} {v : V} (h : RsOk K G F H ρ σ l v) : SlotOk K G F H l (some (some v)) ∧ (l.own = true → ∀ (j : Nat) (m : Lc), ρ[j]? = some (some m) → m.own = true → σ[j]? ≠ some (some v)) := by
  cases l with
  | d x => exact ⟨⟨v, rfl, h⟩, fun z => by cases z⟩
  | sc u => exact ⟨⟨v, rfl, h⟩, fun z => by cases z⟩
  | ls p xs => obtain ⟨a, rfl, _, z, hf⟩ := h; exact ⟨⟨a, rfl, z⟩, fun _ => hf.hf⟩
  | dk p xs => obtain ⟨a, rfl, _, z, hf⟩ := h; exact ⟨⟨a, rfl, z⟩, fun _ => hf.hf⟩
  | dt p xs => obtain ⟨a, rfl, _, z, hf⟩ := h; exact ⟨⟨a, rfl, z⟩, fun _ => hf.hf⟩
  | ob p C xs => obtain ⟨a, rfl, _, z, hf⟩ := h; exact ⟨⟨a, rfl, z⟩, fun _ => hf.hf⟩
  | nb p C fs ns => obtain ⟨a, rfl, _, z, hf⟩ := h; exact ⟨⟨a, rfl, z⟩, fun _ => hf.hf⟩
  | ln p xs => obtain ⟨a, rfl, _, z, hf⟩ := h; exact ⟨⟨a, rfl, z⟩, fun _ => hf.hf⟩
theorem RsOk.ref_own {l : Lc} {v : V} (ho : l.own = true) : RsOk K G F H ρ σ l v ↔ ∃ a, v = .ref a ∧ l.tag = none ∧ At K G F H l a ∧ Frs K G F H ρ σ l a := by
  cases l <;> first | exact Iff.rfl | (simp [Lc.own] at ho)
theorem RsOk.slotN {l : Lc} {v : V} (h : RsOk K G F H ρ σ l v) (ho : l.own = true) : (∀ a, v = .ref a → NoN ρ a) ∧ NsR K G F H ρ σ l v := by
  rw [RsOk.ref_own ho] at h
  obtain ⟨a, rfl, _, _, f⟩ := h
  exact ⟨fun b e => by cases e; exact f.hn, f.ns⟩
theorem RsOk.store [Pn] {l : Lc} {v : V} (R : Rel K G ρ F σ H) (h : RsOk K G F H ρ σ l v) (i : Nat) : Rel K G (ρ.set i (some l)) F (σ.set i (some v)) H := R.store i h.slot.1 h.slot.2 h.slotN
theorem LS.asg [Pn] {i : Nat} {x : Str} {pos' : Pos} (hN : X.N.Nodup) (hi : X.N[i]? = some x) (hx : Loc X.env.scope x) (h : LF X e tf) (hs : swapsWith e (some (.Name x pos')) pos.line X.env = pure false := by rfl)
    (hf : X.fn x = true ∨ X.env.scope.names.lookup x = some .local := by first | exact .inl rfl | exact .inr rfl) : LS X (.Assign [.Name x pos'] e pos) (sAsg i tf) := ⟨psImp (ps_set hN hi hx h.p hs hf) fun D σ H ⟨G, ρ, F, D', R, q, k⟩ =>
  ⟨G, ρ, F, _, R, q, fun l ρ1 v H1 F1 h1 R1 s1 r1 => k.nx _ _ _ _ h1 (r1.store R1 i) s1⟩⟩
def sPar (i j : Nat) (t u : TF) : TSt := fun D ρ => t ρ fun l ρ1 => u ρ1 fun m ρ2 => D.nx ((ρ2.set i (some l)).set j (some m))
theorem At.unpin {l : Lc} {b p : Addr} {o : HO} (z : At K (G.pin p o) F H l b) (h0 : G.H0 p = none) (hio : p ∉ G.io) : At K G F H l b ∧ b ≠ p := by
  have hp : (G.pin p o).H0 p = some o := if_pos rfl
  have ow := z.ow
  have nb : b ≠ p := fun q => by
    subst q
    cases e : l.tag with
    | none => rw [e] at ow; have ow : (G.pin b o).H0 b = none := ow; rw [hp] at ow; cases ow
    | some k => rw [e] at ow; exact hio (List.mem_of_getElem? ow)
  refine ⟨⟨z.nf, ?_, z.ob⟩, nb⟩
  cases e : l.tag with
  | none =>
    rw [e] at ow
    have ow : (if b = p then some o else G.H0 b) = none := ow
    rw [if_neg nb] at ow; exact ow
  | some k => rw [e] at ow; exact ow
theorem At.unpins {l : Lc} {b : Addr} : ∀ {L : List (Addr × HO)} {G : Gm}, (L.map (·.1)).Nodup → (∀ q ∈ L, G.H0 q.1 = none ∧ q.1 ∉ G.io) → At K (G.pins L) F H l b → At K G F H l b ∧ ∀ q ∈ L, b ≠ q.1
  | [], G, _, _, z => ⟨z, fun _ w => absurd w List.not_mem_nil⟩
  | q :: r, G, nd, h, z => by
    rw [List.map_cons, List.nodup_cons] at nd
    obtain ⟨h1, h2⟩ := h q List.mem_cons_self
    obtain ⟨z1, w⟩ := At.unpins (G := G.pin q.1 q.2) nd.2 (fun x hx => by
      obtain ⟨g1, g2⟩ := h x (List.mem_cons_of_mem _ hx)
      exact ⟨by rw [Gm.pin_ne fun e => nd.1 (by rw [← e]; exact List.mem_map_of_mem hx)]; exact g1, g2⟩) z
    obtain ⟨z2, ne⟩ := z1.unpin h1 h2
    refine ⟨z2, fun x hx => ?_⟩
    rcases List.mem_cons.mp hx with rfl | hx
    · exact ne
    · exact w x hx
theorem Ns.unpins {b : Addr} {t : Option Nat} {xs : List PD} : ∀ {L : List (Addr × HO)} {G : Gm}, (L.map (·.1)).Nodup → (∀ q ∈ L, G.H0 q.1 = none ∧ q.1 ∉ G.io) → Ns K (G.pins L) F H t b xs → Ns K G F H t b xs ∧ ∀ q ∈ L, b ≠ q.1
  | [], G, _, _, z => ⟨z, fun _ w => absurd w List.not_mem_nil⟩
  | q :: r, G, nd, h, z => by
    rw [List.map_cons, List.nodup_cons] at nd
    obtain ⟨h1, h2⟩ := h q List.mem_cons_self
    obtain ⟨z1, w⟩ := Ns.unpins (G := G.pin q.1 q.2) nd.2 (fun x hx => by
      obtain ⟨g1, g2⟩ := h x (List.mem_cons_of_mem _ hx)
      exact ⟨by rw [Gm.pin_ne fun e => nd.1 (by rw [← e]; exact List.mem_map_of_mem hx)]; exact g1, g2⟩) z
    have ne : b ≠ q.1 := fun e => by
      rcases z1.ow with o | o
      · have o : (if b = q.1 then some q.2 else G.H0 b) = none := o
        rw [if_pos e] at o; cases o
      · obtain ⟨_, _, _, o⟩ := o; exact h2 (by rw [← e]; exact o)
    refine ⟨⟨z1.nf, ?_, z1.ob⟩, fun x hx => ?_⟩
    · rcases z1.ow with o | o
      · rw [Gm.pin_ne ne] at o; exact .inl o
      · exact .inr o
    · rcases List.mem_cons.mp hx with rfl | hx
      · exact ne
      · exact w x hx
structure Apt (l : Lc) (v : V) (m : Lc) (w : V) : Prop where
  ne : l.own = true → m.own = true → w ≠ v
  lw : ∀ b xs, (b, xs) ∈ l.fp → (m.own = true → w ≠ .ref b) ∧ ∀ ys, (b, ys) ∉ m.fp
  mv : ∀ b xs, (b, xs) ∈ m.fp → l.own = true → v ≠ .ref b
theorem RsOk.keep [Pn] {l : Lc} {v : V} (R : Rel K G ρ F σ H) (h : RsOk K G F H ρ σ l v) :
    ∃ G', Rel K G' ρ F σ H ∧ ∀ {ρ' F' H'}, Rel K G' ρ' F' σ H' → Same F F' → Rel K G ρ' F' σ H' ∧ RsOk K G F' H' ρ' σ l v ∧
      ∀ {m : Lc} {w : V}, RsOk K G' F' H' ρ' σ m w → RsOk K G F' H' ρ' σ m w ∧ Apt l v m w := by
  cases ho : l.own with
  | true =>
    rw [RsOk.ref_own ho] at h
    obtain ⟨a, ev, ht, ⟨nf, ow, o, eo, ok⟩, hf⟩ := h
    subst ev
    have n0 : G.H0 a = none := by rw [ht] at ow; exact ow
    have nio : ∀ {b : Addr}, G.H0 b = none → b ∉ G.io := fun {b} n z => (R.ih b z).2 n
    have no : ∀ us, o ≠ .tup us := fun us z => by subst z; cases l <;> exact False.elim ok
    obtain ⟨L, hL⟩ : ∃ L : List (Addr × HO), L = (a, o) :: l.fp.map fun x => (x.1, (H x.1).getD (.lst [])) := ⟨_, rfl⟩
    have e1 : L.map (·.1) = a :: l.fp.map (·.1) := by rw [hL, List.map_cons, List.map_map]; rfl
    have nd : (L.map (·.1)).Nodup := by
      rw [e1]
      refine List.nodup_cons.mpr ⟨fun z => ?_, ok.fp_nodup⟩
      obtain ⟨x, hx, ex⟩ := List.mem_map.mp z
      exact (hf.ns x.1 x.2 hx).2.1 (by rw [ex])
    have all : ∀ q ∈ L, F q.1 = none ∧ H q.1 = some q.2 ∧ G.H0 q.1 = none ∧ NoS ρ σ q.1 ∧ NoN ρ q.1 ∧ ∀ us, q.2 ≠ .tup us := fun q hq => by
      rw [hL] at hq
      rcases List.mem_cons.mp hq with rfl | hq
      · exact ⟨nf, eo, n0, hf.hf, hf.hn, no⟩
      · obtain ⟨x, hx, rfl⟩ := List.mem_map.mp hq
        obtain ⟨⟨z1, z2, vs, z3, z4⟩, _, z5, z6⟩ := hf.ns x.1 x.2 hx
        rw [ht] at z2
        refine ⟨z1, ?_, z2.elim id (fun z => by obtain ⟨_, z, _⟩ := z; cases z), z5, z6, ?_⟩
        · show H x.1 = some ((H x.1).getD _); rw [z3]; rfl
        · show ∀ us, (H x.1).getD _ ≠ .tup us
          rw [z3]
          intro us z; cases z
    have all2 : ∀ q ∈ L, G.H0 q.1 = none ∧ G.F0 q.1 = none ∧ q.1 ∉ G.io ∧ ∀ us, q.2 ≠ .tup us := fun q hq => by
      obtain ⟨z1, z2, z3, _, _, z4⟩ := all q hq
      exact ⟨z3, R.ff.free z1, nio z3, z4⟩
    refine ⟨G.pins L, Rel.pins nd all R, fun {ρ' F' H'} R' s => ?_⟩
    obtain ⟨R2, w⟩ := Rel.unpins R.ok nd all2 R'
    have all3 : ∀ q ∈ L, G.H0 q.1 = none ∧ q.1 ∉ G.io := fun q hq => ⟨(all2 q hq).1, (all2 q hq).2.2.1⟩
    have ma : (a, o) ∈ L := by rw [hL]; exact List.mem_cons_self
    have mb : ∀ b xs, (b, xs) ∈ l.fp → (b, (H b).getD (.lst [])) ∈ L := fun b xs hb => by rw [hL]; exact List.mem_cons_of_mem _ (List.mem_map.mpr ⟨(b, xs), hb, rfl⟩)
    obtain ⟨f2, h2, hf2, hn2⟩ := w _ ma
    refine ⟨R2, (RsOk.ref_own ho).mpr ⟨a, rfl, ht, ⟨f2, by rw [ht]; exact n0, o, h2, ok.mono s⟩, hf2, hn2, fun b xs hb => ?_⟩, fun {m u} r => ?_⟩
    · obtain ⟨⟨z1, z2, vs, z3, z4⟩, z0, _, _⟩ := hf.ns b xs hb
      obtain ⟨g1, g2, g3, g4⟩ := w _ (mb b xs hb)
      have g2 : H' b = some ((H b).getD (.lst [])) := g2
      rw [z3] at g2
      exact ⟨⟨g1, z2, vs, g2, z4.mono s⟩, z0, g3, g4⟩
    · cases hm : m.own with
      | true =>
        rw [RsOk.ref_own hm] at r ⊢
        obtain ⟨b, ew, hb, z, hf3⟩ := r
        subst ew
        obtain ⟨z1, z2⟩ := At.unpins nd all3 z
        have nsm : ∀ c xs, (c, xs) ∈ m.fp → Ns K G F' H' m.tag c xs ∧ ∀ q ∈ L, c ≠ q.1 := fun c xs hc => Ns.unpins nd all3 (hf3.ns c xs hc).1
        refine ⟨⟨b, rfl, hb, z1, ⟨hf3.hf, hf3.hn, fun c xs hc => ⟨(nsm c xs hc).1, (hf3.ns c xs hc).2⟩⟩⟩, ⟨fun _ _ q => z2 _ ma (V.ref.inj q), fun c xs hc => ⟨fun _ q => z2 _ (mb c xs hc) (V.ref.inj q), fun ys q => (nsm c ys q).2 _ (mb c xs hc) rfl⟩, fun c xs hc _ q => (nsm c xs hc).2 _ ma (V.ref.inj q).symm⟩⟩
      | false =>
        refine ⟨?_, ⟨fun _ z => (by rw [hm] at z; cases z), fun c xs hc => ⟨fun z => (by rw [hm] at z; cases z), fun ys q => (by rw [Lc.fp_own hm] at q; cases q)⟩, fun c xs hc => (by rw [Lc.fp_own hm] at hc; cases hc)⟩⟩
        rcases not_own hm with ⟨x, rfl⟩ | ⟨u, rfl⟩
        · exact r
        · exact r
  | false =>
    refine ⟨G, R, fun {ρ' F' H'} R' s => ⟨R', ?_, fun {m w} r => ⟨r, ⟨fun z => (by rw [ho] at z; cases z), fun b xs hb => (by rw [Lc.fp_own ho] at hb; cases hb), fun b xs _ z => (by rw [ho] at z; cases z)⟩⟩⟩⟩
    rcases not_own ho with ⟨x, rfl⟩ | ⟨u, rfl⟩
    · exact Df.mono s h
    · exact ScOk.mono s h
theorem RsOk.store2 [Pn] {l m : Lc} {v w : V} (R : Rel K G ρ F σ H) (r3 : RsOk K G F H ρ σ l v) (r4 : RsOk K G F H ρ σ m w) (ap : Apt l v m w) (i j : Nat) :
    Rel K G ((ρ.set i (some l)).set j (some m)) F ((σ.set i (some v)).set j (some w)) H := by
  have R4 := r3.store R i
  refine R4.store j r4.slot.1 (fun hm jj mm e hmm z => ?_) fun hm => ⟨fun a ew jj mm ys e hy => ?_, fun b xs hb => ?_⟩
  · rcases set_get e with ⟨rfl, hl, w'⟩ | ⟨hne, e'⟩
    · cases w'
      rw [List.getElem?_set_self (by rw [R.len]; exact hl)] at z
      exact ap.ne hmm hm (by simpa using z.symm)
    · rw [List.getElem?_set_ne (Ne.symm hne)] at z
      exact r4.slot.2 hm jj mm e' hmm z
  · rcases set_get e with ⟨rfl, hl, w'⟩ | ⟨hne, e'⟩
    · cases w'; exact (ap.lw a ys hy).1 hm ew
    · exact (r4.slotN hm).1 a ew jj mm ys e' hy
  · obtain ⟨n1, n2, n3, n4⟩ := (r4.slotN hm).2 b xs hb
    refine ⟨n1, n2, fun jj mm e hmm z => ?_, fun jj mm ys e hy => ?_⟩
    · rcases set_get e with ⟨rfl, hl, w'⟩ | ⟨hne, e'⟩
      · cases w'
        rw [List.getElem?_set_self (by rw [R.len]; exact hl)] at z
        exact ap.mv b xs hb hmm (by simpa using z)
      · rw [List.getElem?_set_ne (Ne.symm hne)] at z
        exact n3 jj mm e' hmm z
    · rcases set_get e with ⟨rfl, hl, w'⟩ | ⟨hne, e'⟩
      · cases w'; exact (ap.lw b ys hy).2 xs hb
      · exact n4 jj mm ys e' hy
theorem LS.par [Pn] {i j : Nat} {x y : Str} {px py pt : Pos} {kt k2 : Nat} {pt2 : Pos} (hc : X.calm = true) (hN : X.N.Nodup) (hi : X.N[i]? = some x) (hj : X.N[j]? = some y) (hij : i ≠ j)
    (hx : X.env.scope.names.lookup x = some .local) (hy : X.env.scope.names.lookup y = some .local) (h1 : LF X e tf) (h2 : LF X e2 tf2)
    (hw : swappedStores [.Tuple [.Name x px, .Name y py] kt pt] (.Tuple [e, e2] k2 pt2) X.env = pure (some [x, y]))
    (hs : swapsWithSole [.Tuple [.Name x px, .Name y py] kt pt] (.Tuple [e, e2] k2 pt2) pos.line X.env = pure false := by rfl)
    (hs1 : starEach [e, e2] X.env = (false, eval e X.env) :: starEach [e2] X.env := by rfl) (hs2 : starEach [e2] X.env = (false, eval e2 X.env) :: starEach [] X.env := by rfl) :
    LS X (.Assign [.Tuple [.Name x px, .Name y py] kt pt] (.Tuple [e, e2] k2 pt2) pos) (sPar i j tf tf2) :=
  ⟨psImp (ps_par hc hN hi hj hij hx hy (pa_cons h1.p (pa_cons h2.p pa_nil hs2) hs1) hw hs) fun D σ H ⟨G, ρ, F, D', R, q, k⟩ =>
    ⟨G, ρ, F, _, R, q, fun l ρ1 v H1 F1 h1 R1 s1 r1 => by
      obtain ⟨G', Rp, back⟩ := r1.keep R1
      exact ⟨G', ρ1, F1, _, Rp, h1, fun m ρ2 w H2 F2 h2 R2 s2 r2 => by
        obtain ⟨R3, r3, both⟩ := back R2 s2
        obtain ⟨r4, ne⟩ := both r2
        refine ⟨v, w, rfl, k.nx _ _ _ _ h2 ?_ (s1.trans s2)⟩
        exact r3.store2 R3 r4 ne i j⟩⟩⟩
end
end DL
namespace DL
open PySem L2 PyProof.Rows
section
variable {G : Gm} {X : Cx} {K : PySem.W.Frag} {F F' H H' : Hp} {ρ : En} {σ : L2.St} {e e2 e3 : Expr} {es : List Expr} {pos : Pos} {oa ob oc : Op1} {ta tb : TD} {c : TTd} {st : Stmt} {sts sts2 : List Stmt} {t u : TSt} {tf tf2 : TF} {v : V} {x : PD}
inductive Pt where
  | nm (i : Nat)
  | tp (is : List Nat)
  /-- a list's items -/
  | ul (is : List Nat)
def gNames : List Nat → TGs
  | [] => gNil
  | i :: r => gCons (gName i) (gNames r)
def Pt.tg (K : PySem.W.Frag) : Pt → TG
  | .nm i => gName i
  | .tp is => gTup K is.length (gNames is)
  | .ul is => gUnl K is.length (gNames is)
def Pt.slots : Pt → List Nat
  | .nm i => [i]
  | .tp is => is
  | .ul is => is
def setAll : En → List Nat → List PD → En
  | ρ, i :: is, x :: xs => setAll (ρ.set i (some (.d x))) is xs
  | ρ, _, _ => ρ
def Pt.go : Pt → PD → En → (En → Prop) → Prop
  | .nm i, x, ρ, Q => Q (ρ.set i (some (.d x)))
  | .tp is, .tuple xs, ρ, Q => xs.length = is.length ∧ Q (setAll ρ is xs)
  | .tp _, _, _, _ => False
  | .ul is, .list xs, ρ, Q => xs.length = is.length ∧ Q (setAll ρ is xs)
  | .ul _, _, _, _ => False
def Only (is : List Nat) (σ σ' : L2.St) : Prop := σ'.length = σ.length ∧ ∀ j, j ∉ is → σ'[j]? = σ[j]?
theorem only_set {i : Nat} {is : List Nat} {w : Option V} (h : i ∈ is) : Only is σ (σ.set i w) := ⟨List.length_set, fun j hj => List.getElem?_set_ne fun z => hj (by rw [← z]; exact h)⟩
theorem names_go [Pn] {is js : List Nat} (hs : ∀ i ∈ js, i ∈ is) : ∀ {ρ : En} {σ : L2.St} {vs : List V} {xs : List PD} {Q : L2.St → Hp → Prop}, Rel K G ρ F σ H → DfA K F vs xs → xs.length = js.length →
    (∀ σ2, Rel K G (setAll ρ js xs) F σ2 H → Only is σ σ2 → Q σ2 H) → gNames js vs σ H Q := by
  induction js with
  | nil =>
    intro ρ σ vs xs Q R d hl q
    have e1 : xs = [] := List.length_eq_zero_iff.mp hl
    subst e1
    cases d
    exact ⟨rfl, q σ R ⟨rfl, fun _ _ => rfl⟩⟩
  | cons j js ih =>
    intro ρ σ vs xs Q R d hl q
    cases d with
    | nil => simp at hl
    | cons a b =>
      rename_i v vs x xs
      refine ⟨v, vs, rfl, ?_⟩
      show gNames js vs (σ.set j (some v)) H Q
      refine ih (fun i hi => hs i (List.mem_cons_of_mem _ hi)) (R.store_d j a) b (by simpa using hl) fun σ2 R2 o => q σ2 R2 ?_
      refine ⟨by rw [o.1, List.length_set], fun k hk => ?_⟩
      rw [o.2 k hk]
      exact List.getElem?_set_ne fun z => hk (by rw [← z]; exact hs j List.mem_cons_self)
theorem pt_go [Pn] (pt : Pt) (R : Rel K G ρ F σ H) (d : Df K F v x) {Q' : En → Prop} (h : pt.go x ρ Q') {Q : L2.St → Hp → Prop} (q : ∀ ρ2 σ2, Q' ρ2 → Rel K G ρ2 F σ2 H → Only pt.slots σ σ2 → Q σ2 H) : pt.tg K v σ H Q := by
  cases pt with
  | nm i => exact q _ _ h (R.store_d i d) (only_set (List.mem_singleton.mpr rfl))
  | tp is =>
    cases d <;> first | exact False.elim h | skip
    rename_i a vs xs hq ds
    obtain ⟨h1, h2⟩ := h
    exact ⟨a, vs, rfl, seqT R.fh hq, by rw [ds.length]; exact h1, names_go (fun i hi => hi) R ds h1 fun σ2 R2 o => q _ σ2 h2 R2 o⟩
  | ul is =>
    cases d <;> first | exact False.elim h | skip
    rename_i a vs xs hq ds
    obtain ⟨h1, h2⟩ := h
    exact ⟨a, vs, rfl, rdSq (rdM R.fh hq), by rw [ds.length]; exact h1, names_go (fun i hi => hi) R ds h1 fun σ2 R2 o => q _ σ2 h2 R2 o⟩
def sUnp (pt : Pt) (t : TD) : TSt := fun D ρ => t ρ fun x ρ1 => pt.go x ρ1 D.nx
theorem LS.unp [Pn] {tg : Expr} {pt : Pt} (hg : PG X tg (pt.tg X.K)) (h : LD X e ta) (hs : swapsWithSole [tg] e pos.line X.env = pure false := by rfl) (hw : swappedStores [tg] e X.env = pure none := by rfl)
    (h1 : (assignEach [tg] X.env).map (·.2) = [assign tg X.env] := by rfl) : LS X (.Assign [tg] e pos) (sUnp pt ta) := ⟨psImp (ps_asg h.p hg hs hw h1) fun D σ H ⟨G, ρ, F, D', R, q, k⟩ =>
  ⟨G, ρ, F, _, R, q, fun x ρ1 v H1 F1 h1 R1 s1 d => pt_go pt R1 d h1 fun ρ2 σ2 q2 R2 _ => k.nx _ _ _ _ q2 R2 s1⟩⟩
def sSetL (s : Nat) (oi : Op1) (t : TD) : TSt := fun D ρ => t ρ fun x ρ1 => match ρ1[s]? with
  | some (some _) => oi.run ρ1 fun a ρ2 => res1 ρ2 a fun y => (match y, ρ2[s]? with
    | .int i, some (some (.ls p xs)) => ∃ j, ixN xs.length i = some j ∧ D.nx (ρ2.set s (some (.ls p (xs.set j x))))
    | _, _ => False)
  | _ => False
theorem Rel.own_ls [Pn] (R : Rel K G ρ F σ H) {s : Nat} {p : Option Nat} {xs : List PD} (er : ρ[s]? = some (some (.ls p xs))) : ∃ a vs, σ[s]? = some (some (.ref a)) ∧ H a = some (.lst vs) ∧ DfA K F vs xs := by
  obtain ⟨a, es, nf, ow, o, eo, ok⟩ := R.at_ er rfl
  cases o <;> first | exact False.elim ok | exact ⟨a, _, es, eo, ok⟩
theorem LS.setL [Pn] {s : Nat} {o i : Expr} {p2 : Pos} (h : LD X e ta) (hg : PG X (.Subscript o i p2) (gSub (tVar s) (liftO X.K oa) rSetL))
    (hs : swapsWithSole [.Subscript o i p2] e pos.line X.env = pure false := by rfl) (hw : swappedStores [.Subscript o i p2] e X.env = pure none := by rfl)
    (h1 : (assignEach [.Subscript o i p2] X.env).map (·.2) = [assign (.Subscript o i p2) X.env] := by rfl) : LS X (.Assign [.Subscript o i p2] e pos) (sSetL s oa ta) := ⟨psImp (ps_asg h.p hg hs hw h1) fun D σ H ⟨G, ρ, F, D', R, q, k⟩ =>
  ⟨G, ρ, F, _, R, q, fun x ρ1 v H1 F1 h1 R1 s1 d => by
    split at h1
    · rename_i l er
      obtain ⟨w, ew⟩ := (R1.sl s _ er).some
      refine ⟨w, ew, G, ρ1, F1, _, R1, h1, fun a ρ2 vi H2 F2 h2 R2 s2 av => ?_⟩
      obtain ⟨y, h3, dy⟩ := res1_dr R2 av h2
      split at h3
      · rename_i i p xs er2
        obtain ⟨j, hj, h4⟩ := h3
        obtain ⟨b, vs, es, eb, dv⟩ := R2.own_ls er2
        rw [es] at ew
        have ew : w = .ref b := by simpa using ew.symm
        subst ew
        rw [dy.int]
        refine ⟨b, vs, i, j, rfl, rfl, eb, by rw [dv.length]; exact hj, k.nx _ _ _ _ h4 ?_ (s1.trans s2)⟩
        exact R2.write er2 rfl es (m := .ls p (xs.set j x)) (dv.set j (d.mono s2)) rfl
      · exact False.elim h3
    · exact False.elim h1⟩⟩
def sApp (s : Nat) (t : TD) : TSt := fun D ρ => match ρ[s]? with
  | some (some (.ls _ _)) => t ρ fun x ρ1 => (match ρ1[s]? with
    | some (some (.ls p xs)) => xs.length < sizeLine ∧ D.nx (ρ1.set s (some (.ls p (xs ++ [x]))))
    | _ => False)
  | _ => False
theorem LS.app [Pn] {s : Nat} (h : PE X e (tBM X.K "list" rAppend (tVar s) (tCons (liftD X.K ta) tNil))) (hs : swapsWith e none pos.line X.env = pure false := by rfl) : LS X (.Expr e pos) (sApp s ta) := ⟨psImp (ps_expr h hs) fun D σ H ⟨G, ρ, F, D', R, q, k⟩ => by
  unfold sApp at q
  split at q
  · rename_i p0 ys er
    obtain ⟨a, us, es, ea, _⟩ := R.own_ls er
    refine ⟨_, es, .inl ⟨rfl, us, SqL.of ea⟩, G, ρ, F, _, R, q, fun x ρ1 v H1 F1 h1 R1 s1 d => ?_⟩
    split at h1
    · rename_i p xs er1
      obtain ⟨b, vs, es1, eb, dv⟩ := R1.own_ls er1
      rw [es] at es1
      have eab : a = b := by simpa using es1
      subst eab
      refine ⟨a, vs, v, rfl, rfl, eb, by rw [dv.length]; exact h1.1, k.nx _ _ _ _ h1.2 ?_ s1⟩
      exact R1.write er1 rfl es (m := .ls p (xs ++ [x])) (dv.snoc d) rfl
    · exact False.elim h1
  · exact False.elim q⟩
def rExtD : V → List V → Hp → VK → Prop := fun x vs H Q => ∃ l b xs zs, x = .ref l ∧ vs = [.ref b] ∧ H l = some (.lst xs) ∧ Rd H b (.lst zs) ∧ xs.length + zs.length ≤ sizeLine ∧ Q .non (upd H l (.lst (xs ++ zs)))
def sExt (s : Nat) (o : Op1) : TSt := fun D ρ => match ρ[s]? with
  | some (some (.ls _ _)) => o.run ρ fun a ρ1 => res1 ρ1 a fun y => (match y, ρ1[s]? with
    | .list ys, some (some (.ls p xs)) => xs.length + ys.length ≤ sizeLine ∧ D.nx (ρ1.set s (some (.ls p (xs ++ ys))))
    | _, _ => False)
  | _ => False
theorem LS.ext [Pn] {s : Nat} (h : PE X e (tBM X.K "list" rExtD (tVar s) (tCons (liftO X.K oa) tNil))) (hs : swapsWith e none pos.line X.env = pure false := by rfl) : LS X (.Expr e pos) (sExt s oa) := ⟨psImp (ps_expr h hs) fun D σ H ⟨G, ρ, F, D', R, q, k⟩ => by
  unfold sExt at q
  split at q
  · rename_i p0 ys er
    obtain ⟨a, us, es, ea, _⟩ := R.own_ls er
    refine ⟨_, es, .inl ⟨rfl, us, SqL.of ea⟩, G, ρ, F, _, R, q, fun av ρ1 v H1 F1 h1 R1 s1 d => ?_⟩
    obtain ⟨y, h2, dy⟩ := res1_dr R1 d h1
    split at h2
    · rename_i zs p xs er1
      obtain ⟨b, vs, es1, eb, dv⟩ := R1.own_ls er1
      rw [es] at es1
      have eab : a = b := by simpa using es1
      subst eab
      obtain ⟨c, ws, rfl, ec, dw⟩ := dy.lst R1.fh
      refine ⟨a, c, vs, ws, rfl, rfl, eb, ec, by rw [dv.length, dw.length]; exact h2.1, k.nx _ _ _ _ h2.2 ?_ s1⟩
      exact R1.write er1 rfl es (m := .ls p (xs ++ zs)) (dv.append dw) rfl
    · exact False.elim h2
  · exact False.elim q⟩
end
end DL
namespace DL
open PySem L2 PyProof.Rows
theorem piImp {X : Cx} {tg e : Expr} {t t' : TI} (h : PI X tg e t) (w : ∀ σ H R, t' σ H R → t σ H R) : PI X tg e t' := ⟨fun pins s σ H R I q => h.run pins s σ H R I (w _ _ _ q)⟩
section
variable {G : Gm} {X : Cx} {K : PySem.W.Frag} {F F' H H' : Hp} {ρ : En} {σ : L2.St} {e e2 e3 tg : Expr} {es : List Expr} {pos : Pos} {oa ob oc : Op1} {ta tb : TD} {c : TTd} {st : Stmt} {sts sts2 : List Stmt} {t u : TSt} {tf tf2 : TF} {v : V} {x : PD}
def sWhile (c : TTd) (b : TSt) : TSt := fun D ρ => ∃ (I : En → Prop) (μ : En → Nat), I ρ ∧ ∀ ρ, I ρ → c ρ fun k ρ1 => brB k (b { D with nx := fun ρ' => I ρ' ∧ μ ρ' < μ ρ, ct := fun ρ' => I ρ' ∧ μ ρ' < μ ρ, bk := D.nx } ρ1) (D.nx ρ1)
theorem LS.while [Pn] (hp : PassesOwn (model X.prog X.w) X.A X.env X.xe) (h : LT X e c) (hb : LSs X sts t) : LS X (.While e sts [] pos) (sWhile c t) := ⟨psImp (ps_while hp h.p hb.p) fun D σ H ⟨G, ρ, F, D', R, ⟨I, μ, i0, turn⟩, k⟩ => by
  refine ⟨fun m σ H => ∃ ρ F', Rel X.K G ρ F' σ H ∧ Same F F' ∧ I ρ ∧ m = μ ρ, ⟨μ ρ, ρ, F, R, Same.refl _, i0, rfl⟩, ?_⟩
  rintro m σ1 H1 ⟨ρ1, F1, R1, s1, i1, rfl⟩
  refine ⟨G, ρ1, F1, _, R1, turn ρ1 i1, fun b ρ2 H2 F2 h2 R2 s2 => ?_⟩
  cases b with
  | false => exact iteF (k.nx _ _ _ _ (h2.2 rfl) R2 (s1.trans s2))
  | true =>
    refine iteT ⟨fun σ' H' => ∃ ρ' F', Rel X.K G ρ' F' σ' H' ∧ Same F F' ∧ I ρ' ∧ μ ρ' < μ ρ1, fun σ' H' ⟨ρ', F', R', s', i', l⟩ => ⟨μ ρ', l, ρ', F', R', s', i', rfl⟩, ?_⟩
    have s12 := s1.trans s2
    exact ⟨G, ρ2, F2, _, R2, h2.1 rfl, ⟨fun ρ3 σ3 H3 F3 h R s => ⟨ρ3, F3, R, s12.trans s, h.1, h.2⟩, fun l ρ3 v σ3 H3 F3 h R s r => k.rt _ _ _ _ _ _ h R (s12.trans s) r,
      fun ρ3 σ3 H3 F3 h R s => k.nx _ _ _ _ h R (s12.trans s), fun ρ3 σ3 H3 F3 h R s => ⟨ρ3, F3, R, s12.trans s, h.1, h.2⟩⟩⟩⟩
inductive Wk where
  | items (xs : List PD)
  | own (s : Nat) (p : Option Nat) (xs : List PD)
  /-- the own list at b under a name in the own instance of a slot, which stays -/
  | nst (s : Nat) (nm : Str) (b : Addr) (xs : List PD)
def Wk.list : Wk → List PD
  | .items xs => xs
  | .own _ _ xs => xs
  | .nst _ _ _ xs => xs
def Wk.keeps (ρ : En) : Wk → Prop
  | .items _ => True
  | .own s p xs => ρ[s]? = some (some (.ls p xs))
  | .nst s nm b xs => ∃ p C fs ns, ρ[s]? = some (some (.nb p C fs ns)) ∧ getN nm ns = some (b, xs)
def Wk.keepS (σ σ1 : L2.St) : Wk → Prop
  | .items _ => True
  | .own s _ _ => σ[s]? = σ1[s]?
  | .nst _ _ _ _ => True
abbrev TId := En → (Wk → En → Prop) → Prop
def WkOk [Pn] (K : PySem.W.Frag) (J : It) (w : Wk) (F1 : Hp) (σ1 : L2.St) : Prop := ∀ (G : Gm) (i : Nat) (ρ : En) (F : Hp) (σ : L2.St) (H : Hp), Rel K G ρ F σ H → Same F1 F → w.keeps ρ → w.keepS σ σ1 →
  (w.list.length ≤ i → J.stop i H) ∧ (i < w.list.length → J.go i H ∧ ∀ x H', J.yld i H x H' → ∃ F' d, Grow F H F' H' ∧ w.list[i]? = some d ∧ Df K F' x d)
def liftI [Pn] (K : PySem.W.Frag) (t : TId) : TI := fun σ H R => ∃ G ρ F Q', Rel K G ρ F σ H ∧ t ρ Q' ∧ ∀ w ρ1 H1 F1 J, Q' w ρ1 → Rel K G ρ1 F1 σ H1 → Same F F1 → WkOk K J w F1 σ → R J H1
structure LI [Pn] (X : Cx) (tg e : Expr) (t : TId) : Prop where
  p : PI X tg e (liftI X.K t)
def iSeqH (K : PySem.W.Frag) (tl : TE) : TI := fun σ H R => tl σ H fun x H1 => (∃ a xs, x = .ref a ∧ SqL K H1 a xs ∧ R (Itl K a) H1) ∨ (∃ a xs, x = .ref a ∧ SqT K H1 a xs ∧ R (Itt K a) H1)
theorem pi_seq {tl : TE} (hl : PE X e tl) : PI X tg e (iSeqH X.K tl) := by
  refine ⟨fun pins s σ H R I h => thn (hl.run pins s σ H _ I h) fun u s1 ⟨x, H1, I1, r1, q1⟩ => ?_⟩
  have fp : ∀ b ∈ [s1.heap.objs.size], FpOk X pins H1 b := fun b hb => by rw [List.mem_singleton.mp hb]; exact I1.fpOk (Nat.le_refl _) (I1.hok.fresh (Nat.le_refl _))
  rcases q1 with ⟨a, xs, ex, hq, q⟩ | ⟨a, xs, ex, hq, q⟩ <;> subst ex <;> cases r1
  · obtain ⟨its, _, pl, _⟩ := I1.list hq
    exact wpAny_pyIter_list pl.isList ⟨_, _, _, _, H1, rfl, I1.kept (t' := s1.toks) (fun b o w => Heap.get?_push_of_some _ w), turn_list a _, ⟨_, Heap.get?_push_size _ rfl, rfl, rfl⟩, fp, q⟩
  · obtain ⟨its, _, pl, _⟩ := I1.tuple hq
    exact wpAny_pyIter_tuple (show s1.heap.IsTuple a its.toArray from pl) ⟨_, _, _, _, H1, rfl, I1.kept (t' := s1.toks) (fun b o w => Heap.get?_push_of_some _ w), turn_tuple a _, ⟨_, Heap.get?_push_size _ rfl, rfl, rfl⟩, fp, q⟩
def iSeq (t : TD) : TId := fun ρ Q => t ρ fun x ρ1 => match x with
  | .list xs => Q (.items xs) ρ1
  | .tuple xs => Q (.items xs) ρ1
  | _ => False
theorem wk_list [Pn] {a : Addr} {vs : List V} {xs : List PD} {F1 : Hp} {σ1 : L2.St} (hq : Rd F1 a (.lst vs)) (ds : DfA K F1 vs xs) : WkOk K (Itl K a) (.items xs) F1 σ1 := by
  intro G i ρ F σ H R s _ _
  have q : SqL K H a vs := .inl (rdM R.fh (rdM s hq))
  have hl : vs.length = xs.length := ds.length
  refine ⟨fun h => ⟨vs, q, by rw [hl]; exact h⟩, fun h => ?_⟩
  obtain ⟨d, hd⟩ : ∃ d, xs[i]? = some d := ⟨xs[i]'h, List.getElem?_eq_getElem h⟩
  obtain ⟨v, hv, dv⟩ := ds.get hd
  refine ⟨⟨vs, v, q, hv⟩, fun x H' y => ?_⟩
  obtain ⟨rfl, y⟩ := y
  have := y vs q
  rw [hv] at this
  cases this
  exact ⟨F, d, Grow.refl R.fh, hd, dv.mono s⟩
theorem wk_tup [Pn] {a : Addr} {vs : List V} {xs : List PD} {F1 : Hp} {σ1 : L2.St} (hq : SqT K F1 a vs) (ds : DfA K F1 vs xs) : WkOk K (Itt K a) (.items xs) F1 σ1 := by
  intro G i ρ F σ H R s _ _
  have q : SqT K H a vs := seqT R.fh (seqT s hq)
  have hl : vs.length = xs.length := ds.length
  refine ⟨fun h => ⟨vs, q, by rw [hl]; exact h⟩, fun h => ?_⟩
  obtain ⟨d, hd⟩ : ∃ d, xs[i]? = some d := ⟨xs[i]'h, List.getElem?_eq_getElem h⟩
  obtain ⟨v, hv, dv⟩ := ds.get hd
  refine ⟨⟨vs, v, q, hv⟩, fun x H' y => ?_⟩
  obtain ⟨rfl, y⟩ := y
  have := y vs q
  rw [hv] at this
  cases this
  exact ⟨F, d, Grow.refl R.fh, hd, dv.mono s⟩
theorem LI.seq [Pn] (h : LD X e ta) : LI X tg e (iSeq ta) := ⟨piImp (pi_seq h.p) fun σ H R ⟨G, ρ, F, Q', Rl, q, c⟩ => ⟨G, ρ, F, _, Rl, q, fun x ρ1 v H1 F1 h1 R1 s1 d => by
  split at h1
  · cases d with
    | lst hq ds => exact .inl ⟨_, _, rfl, rdSq (rdM R1.fh hq), c _ _ _ _ _ h1 R1 s1 (wk_list hq ds)⟩
  · cases d with
    | tup hq ds => exact .inr ⟨_, _, rfl, seqT R1.fh hq, c _ _ _ _ _ h1 R1 s1 (wk_tup hq ds)⟩
  · exact False.elim h1⟩⟩
def iOwn (s : Nat) : TId := fun ρ Q => match ρ[s]? with
  | some (some (.ls p xs)) => Q (.own s p xs) ρ
  | some (some (.d (.list xs))) => Q (.items xs) ρ
  | some (some (.d (.tuple xs))) => Q (.items xs) ρ
  | _ => False
theorem wk_own [Pn] {a : Addr} {s : Nat} {p : Option Nat} {xs : List PD} {F1 : Hp} {σ1 : L2.St} (es : σ1[s]? = some (some (.ref a))) : WkOk K (Itl K a) (.own s p xs) F1 σ1 := by
  intro G i ρ F σ H R _ hk hs
  obtain ⟨b, vs, eb, hb, ds⟩ := R.own_ls (show ρ[s]? = some (some (.ls p xs)) from hk)
  have hs : σ[s]? = σ1[s]? := hs
  rw [hs, es] at eb
  have eab : a = b := by simpa using eb
  subst eab
  have q : SqL K H a vs := SqL.of hb
  have hl : vs.length = xs.length := ds.length
  refine ⟨fun h => ⟨vs, q, by rw [hl]; exact h⟩, fun h => ?_⟩
  have h : i < xs.length := h
  obtain ⟨d, hd⟩ : ∃ d, xs[i]? = some d := ⟨xs[i]'h, List.getElem?_eq_getElem h⟩
  obtain ⟨v, hv, dv⟩ := ds.get hd
  refine ⟨⟨vs, v, q, hv⟩, fun x H' y => ?_⟩
  obtain ⟨rfl, y⟩ := y
  have := y vs q
  rw [hv] at this
  cases this
  exact ⟨F, d, Grow.refl R.fh, hd, dv⟩
theorem LI.own [Pn] (s : Nat) (h : PE X e (tVar s)) : LI X tg e (iOwn s) := ⟨piImp (pi_seq h) fun σ H R ⟨G, ρ, F, Q', Rl, q, c⟩ => by
  unfold iOwn at q
  split at q
  · rename_i p xs er
    obtain ⟨a, vs, es, ha, ds⟩ := Rl.own_ls er
    exact ⟨_, es, .inl ⟨a, vs, rfl, SqL.of ha, c _ _ _ _ _ q Rl (Same.refl _) (wk_own es)⟩⟩
  · rename_i xs er
    obtain ⟨v, es, d⟩ := Rl.sl s _ er
    cases d with
    | lst hq ds => exact ⟨_, es, .inl ⟨_, _, rfl, rdSq (rdM Rl.fh hq), c _ _ _ _ _ q Rl (Same.refl _) (wk_list hq ds)⟩⟩
  · rename_i xs er
    obtain ⟨v, es, d⟩ := Rl.sl s _ er
    cases d with
    | tup hq ds => exact ⟨_, es, .inr ⟨_, _, rfl, seqT Rl.fh hq, c _ _ _ _ _ q Rl (Same.refl _) (wk_tup hq ds)⟩⟩
  · exact False.elim q⟩
def rngD (lo : Int) (n : Nat) : List PD := (List.range n).map fun i => .int (lo + (i : Nat))
theorem wk_range [Pn] {lo : Int} {n : Nat} {F1 : Hp} {σ1 : L2.St} : WkOk K (Itr lo n) (.items (rngD lo n)) F1 σ1 := by
  intro G i ρ F σ H R s _ _
  have hl : (rngD lo n).length = n := by unfold rngD; rw [List.length_map, List.length_range]
  refine ⟨fun h => by show n ≤ i; have h : (rngD lo n).length ≤ i := h; omega, fun h => ?_⟩
  have h : i < (rngD lo n).length := h
  rw [hl] at h
  refine ⟨h, fun x H' y => ?_⟩
  obtain ⟨rfl, rfl⟩ := y
  refine ⟨F, .int (lo + (i : Nat)), Grow.refl R.fh, ?_, .int _⟩
  show (rngD lo n)[i]? = _
  unfold rngD
  rw [List.getElem?_map, List.getElem?_range h]
  rfl
def iRg (t : TAd) : TId := fun ρ Q => t ρ fun as ρ1 => resA ρ1 as fun xs => match xs with
  | [.int j] => (-(2 ^ 62) ≤ j ∧ j < 2 ^ 62) ∧ Q (.items (rngD 0 j.toNat)) ρ1
  | [.int i, .int j] => (-(2 ^ 62) ≤ i ∧ i < 2 ^ 62 ∧ -(2 ^ 62) ≤ j ∧ j < 2 ^ 62) ∧ Q (.items (rngD i (j - i).toNat)) ρ1
  | _ => False
variable {p : Pos} {tt : TAd}
theorem LI.range1 [Pn] (hg : Gl X "range") (hm : X.mg "range" = none) (ha : LA X [e] tt) (hs : starEach [e] X.env = [(false, eval e X.env)] := by rfl) : LI X tg (.Call (.Name "range" p) [e] [] pos) (iRg tt) :=
  ⟨piImp (pi_range1 hg hm ha.p hs) fun σ H R ⟨G, ρ, F, Q', Rl, q, c⟩ => ⟨G, ρ, F, _, Rl, q, fun as ρ1 vs H1 F1 h1 hl R1 s1 av => by
    obtain ⟨xs, h2, d⟩ := resA_dr R1 av h1
    split at h2
    · obtain ⟨w, rfl, d1⟩ := d.one
      rw [d1.int]
      exact ⟨_, rfl, h2.1.1, h2.1.2, c _ _ _ _ _ h2.2 R1 s1 wk_range⟩
    · have := av.length
      obtain ⟨w1, w2, rfl, _, _⟩ := d.two
      rw [hl] at this; simp at this
    · exact False.elim h2⟩⟩
theorem LI.range2 [Pn] (hg : Gl X "range") (hm : X.mg "range" = none) (ha : LA X [e, e2] tt) (hs : starEach [e, e2] X.env = [(false, eval e X.env), (false, eval e2 X.env)] := by rfl) (hs2 : starEach [e2] X.env = [(false, eval e2 X.env)] := by rfl) :
    LI X tg (.Call (.Name "range" p) [e, e2] [] pos) (iRg tt) :=
  ⟨piImp (pi_range2 hg hm ha.p hs hs2) fun σ H R ⟨G, ρ, F, Q', Rl, q, c⟩ => ⟨G, ρ, F, _, Rl, q, fun as ρ1 vs H1 F1 h1 hl R1 s1 av => by
    obtain ⟨xs, h2, d⟩ := resA_dr R1 av h1
    split at h2
    · have := av.length
      obtain ⟨w1, rfl, _⟩ := d.one
      rw [hl] at this; simp at this
    · obtain ⟨w, w2, rfl, d1, d2⟩ := d.two
      rw [d1.int, d2.int]
      exact ⟨_, _, rfl, h2.1, c _ _ _ _ _ h2.2 R1 s1 wk_range⟩
    · exact False.elim h2⟩⟩
theorem wk_pair [Pn] {J : It} {f : Nat → Option V} {g : Nat → Option V} {F1 : Hp} {σ1 : L2.St} {a b : List PD} {n : Nat} {xs : List PD} (hl : xs.length = n)
    (hst : ∀ i F H, Same F1 F → Same F H → n ≤ i → J.stop i H) (hgo : ∀ i F H, Same F1 F → Same F H → i < n → J.go i H)
    (hy : ∀ i F H x H', Same F1 F → Same F H → i < n → J.yld i H x H' → ∃ T u w d1 d2, x = .ref T ∧ H T = none ∧ H' = upd H T (.tup [u, w]) ∧ Df K F1 u d1 ∧ Df K F1 w d2 ∧ xs[i]? = some (.tuple [d1, d2])) : WkOk K J (.items xs) F1 σ1 := by
  intro G i ρ F σ H R s _ _
  refine ⟨fun h => hst i F H s R.fh (by have h : xs.length ≤ i := h; omega), fun h => ?_⟩
  have h : i < xs.length := h
  rw [hl] at h
  refine ⟨hgo i F H s R.fh h, fun x H' y => ?_⟩
  obtain ⟨T, u, w, d1, d2, rfl, hT, rfl, q1, q2, e⟩ := hy i F H x H' s R.fh h y
  have g := Grow.frozen R.fh hT (.tup [u, w])
  exact ⟨_, _, g, e, .tup (SqT.of upd_same) (.cons ((q1.mono s).mono g.ff) (.cons ((q2.mono s).mono g.ff) .nil))⟩
def enumD (xs : List PD) : List PD := (List.range xs.length).map fun i => .tuple [.int (i : Nat), xs.getD i .none]
def iEnm (t : TD) : TId := fun ρ Q => t ρ fun x ρ1 => match x with
  | .list xs => Q (.items (enumD xs)) ρ1
  | _ => False
theorem enumD_get {xs : List PD} {i : Nat} {d : PD} (h : xs[i]? = some d) : (enumD xs)[i]? = some (.tuple [.int (i : Nat), d]) := by
  unfold enumD
  have hi := (List.getElem?_eq_some_iff.mp h).1
  rw [List.getElem?_map, List.getElem?_range hi]
  simp [List.getD_eq_getElem?_getD, h]
theorem LI.enum [Pn] {elts : List Expr} {kk : Nat} {tpos : Pos} (hg : Gl X "enumerate") (hm : X.mg "enumerate" = none) (h : LD X e ta) (hs : starEach [e] X.env = [(false, eval e X.env)] := by rfl) :
    LI X (.Tuple elts kk tpos) (.Call (.Name "enumerate" p) [e] [] pos) (iEnm ta) :=
  ⟨piImp (pi_enum hg hm (pa_cons h.p pa_nil hs) hs) fun σ H R ⟨G, ρ, F, Q', Rl, q, c⟩ => ⟨G, ρ, F, _, Rl, q, fun x ρ1 v H1 F1 h1 R1 s1 d => by
    split at h1
    · rename_i xs
      cases d with
      | lst hq ds =>
        rename_i a vs
        have hl : vs.length = xs.length := ds.length
        refine ⟨a, vs, rfl, rdSq (rdM R1.fh hq), c _ _ _ _ _ h1 R1 s1 (wk_pair (f := fun _ => none) (g := fun _ => none) (a := []) (b := []) (n := xs.length) (by unfold enumD; simp) ?_ ?_ ?_)⟩
        · exact fun i F H s s2 hi => ⟨vs, rdSq (rdM s2 (rdM s hq)), by omega⟩
        · intro i F H s s2 hi
          exact ⟨vs, vs[i]'(by omega), rdSq (rdM s2 (rdM s hq)), List.getElem?_eq_getElem _⟩
        · intro i F H x H' s s2 hi ⟨T, u, e1, hT, e2, hu⟩
          have hu := hu vs (rdSq (rdM s2 (rdM s hq)))
          obtain ⟨d, hd, du⟩ := ds.get' hu
          exact ⟨T, _, u, .int (i : Nat), d, e1, hT, e2, .int _, du, enumD_get hd⟩
    · exact False.elim h1⟩⟩
def zipD (xs ys : List PD) : List PD := List.zipWith (fun a b => .tuple [a, b]) xs ys
def iZp (t : TAd) : TId := fun ρ Q => t ρ fun as ρ1 => resFA ρ1 as fun xs => match xs with
  | [.list xs, .list ys] => Q (.items (zipD xs ys)) ρ1
  | [.tuple xs, .tuple ys] => Q (.items (zipD xs ys)) ρ1
  | _ => False
theorem zipD_get {xs ys : List PD} {i : Nat} {d d2 : PD} (h : xs[i]? = some d) (h2 : ys[i]? = some d2) : (zipD xs ys)[i]? = some (.tuple [d, d2]) := by
  unfold zipD
  rw [List.getElem?_zipWith, h, h2]
theorem LI.zip [Pn] {elts : List Expr} {kk : Nat} {tpos : Pos} (hg : Gl X "zip") (hm : X.mg "zip" = none) (h : LA X [e, e2] tt)
    (hs : starEach [e, e2] X.env = (false, eval e X.env) :: starEach [e2] X.env := by rfl) (hpl : (backTo pos (starEach [e2] X.env)).any (·.1) = false := by rfl) :
    LI X (.Tuple elts kk tpos) (.Call (.Name "zip" p) [e, e2] [] pos) (iZp tt) :=
  ⟨piImp (RZ.pi_zipA hg hm h.p hs hpl) fun σ H R ⟨G, ρ, F, Q', Rl, q, c⟩ => ⟨G, ρ, F, _, Rl, q, fun as ρ1 us H1 F1 h1 hln R1 s1 av => by
    obtain ⟨zs, h2, dz⟩ := resFA_df R1 av h1
    split at h2
    · rename_i xs ys
      cases dz with | cons d dz => cases dz with | cons d2 dz => cases dz; cases d with | lst hq ds => cases d2 with | lst hq2 ds2 =>
        rename_i a vs b ws
        have hl : vs.length = xs.length := ds.length
        have hl2 : ws.length = ys.length := ds2.length
        refine ⟨a, b, vs, ws, rfl, .inl ⟨rdSq (rdM R1.fh hq), rdSq (rdM R1.fh hq2), c _ _ _ _ _ h2 R1 s1 (wk_pair (f := fun _ => none) (g := fun _ => none) (a := []) (b := []) (n := min xs.length ys.length) (by unfold zipD; simp) ?_ ?_ ?_)⟩⟩
        · exact fun i F H s s2 hi => ⟨vs, ws, rdSq (rdM s2 (rdM s hq)), rdSq (rdM s2 (rdM s hq2)), by omega⟩
        · intro i F H s s2 hi
          exact ⟨vs, ws, vs[i]'(by omega), ws[i]'(by omega), rdSq (rdM s2 (rdM s hq)), rdSq (rdM s2 (rdM s hq2)), List.getElem?_eq_getElem _, List.getElem?_eq_getElem _⟩
        · intro i F H x H' s s2 hi ⟨T, u, w, e1, hT, e2, hu, hw⟩
          have hu := hu vs (rdSq (rdM s2 (rdM s hq)))
          have hw := hw ws (rdSq (rdM s2 (rdM s hq2)))
          obtain ⟨d, hd, du⟩ := ds.get' hu
          obtain ⟨d', hd', dw⟩ := ds2.get' hw
          exact ⟨T, u, w, d, d', e1, hT, e2, du, dw, zipD_get hd hd'⟩
    · rename_i xs ys
      cases dz with | cons d dz => cases dz with | cons d2 dz => cases dz; cases d with | tup hq ds => cases d2 with | tup hq2 ds2 =>
        rename_i a vs b ws
        have hl : vs.length = xs.length := ds.length
        have hl2 : ws.length = ys.length := ds2.length
        refine ⟨a, b, vs, ws, rfl, .inr ⟨seqT R1.fh hq, seqT R1.fh hq2, c _ _ _ _ _ h2 R1 s1 (wk_pair (f := fun _ => none) (g := fun _ => none) (a := []) (b := []) (n := min xs.length ys.length) (by unfold zipD; simp) ?_ ?_ ?_)⟩⟩
        · exact fun i F H s s2 hi => ⟨vs, ws, seqT s2 (seqT s hq), seqT s2 (seqT s hq2), by omega⟩
        · intro i F H s s2 hi
          exact ⟨vs, ws, vs[i]'(by omega), ws[i]'(by omega), seqT s2 (seqT s hq), seqT s2 (seqT s hq2), List.getElem?_eq_getElem _, List.getElem?_eq_getElem _⟩
        · intro i F H x H' s s2 hi ⟨T, u, w, e1, hT, e2, hu, hw⟩
          have hu := hu vs (seqT s2 (seqT s hq))
          have hw := hw ws (seqT s2 (seqT s hq2))
          obtain ⟨d, hd, du⟩ := ds.get' hu
          obtain ⟨d', hd', dw⟩ := ds2.get' hw
          exact ⟨T, u, w, d, d', e1, hT, e2, du, dw, zipD_get hd hd'⟩
    · exact False.elim h2⟩⟩
def sFor (src : TId) (pt : Pt) (b : TSt) : TSt := fun D ρ => src ρ fun w ρ1 => ∃ xs, w = .items xs ∧ ∃ I : Nat → En → Prop, I 0 ρ1 ∧
  (∀ i x ρ2, xs[i]? = some x → I i ρ2 → pt.go x ρ2 fun ρ3 => b { D with nx := I (i + 1), ct := I (i + 1), bk := D.nx } ρ3) ∧ ∀ ρ2, I xs.length ρ2 → D.nx ρ2
theorem LS.for [Pn] {src : TId} {pt : Pt} (hp : PassesOwn (model X.prog X.w) X.A X.env X.xe) (hc : X.calm = true) (hi : LI X tg e src) (hg : PG X tg (pt.tg X.K)) (hb : LSs X sts t)
    (hs : ∀ x, foldedSetIterable e X.env x = pure x := by intro _; rfl) : LS X (.For tg e sts [] pos) (sFor src pt t) := ⟨psImp (ps_for hp hc hi.p hg hb.p hs) fun D σ H ⟨G, ρ, F, D', R, q, k⟩ => ⟨G, ρ, F, _, R, q, fun w ρ1 H1 F1 J h1 R1 s1 wk => by
  obtain ⟨xs, rfl, I, i0, turn, fin⟩ := h1
  refine ⟨fun i m σ H => m = xs.length - i ∧ i ≤ xs.length ∧ ∃ ρ2 F2, Rel X.K G ρ2 F2 σ H ∧ Same F1 F2 ∧ I i ρ2, ⟨xs.length, rfl, Nat.zero_le _, ρ1, F1, R1, Same.refl _, i0⟩, ?_⟩
  rintro i m σ2 H2 ⟨rfl, hi, ρ2, F2, R2, s2, i2⟩
  obtain ⟨wstop, wgo⟩ := wk G i ρ2 F2 σ2 H2 R2 s2 trivial trivial
  by_cases hlt : i < xs.length
  · obtain ⟨go, yld⟩ := wgo hlt
    refine .inr ⟨go, fun σ' H' => ∃ ρ' F', Rel X.K G ρ' F' σ' H' ∧ Same F1 F' ∧ I (i + 1) ρ', fun σ' H' ⟨ρ', F', R', s', i'⟩ => ⟨_, by omega, rfl, hlt, ρ', F', R', s', i'⟩, fun x H' y => ?_⟩
    obtain ⟨F', d, g, ed, dd⟩ := yld x H' y
    refine pt_go pt (R2.grow g) dd (turn i d ρ2 ed i2) fun ρ3 σ3 q3 R3 _ => ?_
    have s3 := s1.trans (s2.trans g.ff)
    exact ⟨G, ρ3, F', _, R3, q3, ⟨fun ρ4 σ4 H4 F4 h R s => ⟨ρ4, F4, R, (s2.trans g.ff).trans s, h⟩, fun l ρ4 v σ4 H4 F4 h R s r => k.rt _ _ _ _ _ _ h R (s3.trans s) r,
      fun ρ4 σ4 H4 F4 h R s => k.nx _ _ _ _ h R (s3.trans s), fun ρ4 σ4 H4 F4 h R s => ⟨ρ4, F4, R, (s2.trans g.ff).trans s, h⟩⟩⟩
  · have ei : i = xs.length := by omega
    subst ei
    exact .inl ⟨wstop (Nat.le_refl _), k.nx _ _ _ _ (fin ρ2 i2) R2 (s1.trans s2)⟩⟩⟩
end
end DL
namespace DL
open PySem L2 PyProof.Rows
section
variable {G : Gm} {X : Cx} {K : PySem.W.Frag} {F F' F1 F2 H H' H1 : Hp} {ρ ρ1 ρ2 : En} {σ : L2.St} {e e2 e3 tg elt iter : Expr} {es ifs : List Expr} {pos : Pos} {oa ob oc : Op1} {ta tb el : TD} {c : TTd} {st : Stmt} {sts sts2 : List Stmt} {t u : TSt} {tf tf2 : TF} {v : V} {x : PD}
def wipeE (ρ : En) : List Nat → En
  | [] => ρ
  | v :: vs => (wipeE ρ vs).set v none
def restE (ρ1 ρ2 : En) : List Nat → En
  | [] => ρ2
  | j :: js => (restE ρ1 ρ2 js).set j (ρ1.getD j none)
def lcFree (ρ : En) (vs : List Nat) : Bool := vs.all fun j => match ρ[j]? with
  | some (some l) => !l.own
  | _ => true
theorem wipe_ne {vs : List Nat} {i : Nat} (h : i ∉ vs) : (wipe σ vs)[i]? = σ[i]? := by
  induction vs with
  | nil => rfl
  | cons v vs ih =>
    show ((wipe σ vs).set v none)[i]? = σ[i]?
    rw [List.getElem?_set_ne (fun z => h (by rw [z]; exact List.mem_cons_self))]
    exact ih fun z => h (List.mem_cons_of_mem _ z)
theorem wipeE_length (vs : List Nat) : (wipeE ρ vs).length = ρ.length := by
  induction vs with
  | nil => rfl
  | cons v vs ih => show ((wipeE ρ vs).set v none).length = _; rw [List.length_set, ih]
theorem wipeE_get {vs : List Nat} {i : Nat} {l : Lc} (h : (wipeE ρ vs)[i]? = some (some l)) : i ∉ vs ∧ ρ[i]? = some (some l) := by
  induction vs with
  | nil => exact ⟨by simp, h⟩
  | cons v vs ih =>
    have h : ((wipeE ρ vs).set v none)[i]? = some (some l) := h
    rcases set_get h with ⟨_, _, z⟩ | ⟨hne, h⟩
    · cases z
    · obtain ⟨h1, h2⟩ := ih h
      exact ⟨by simp only [List.mem_cons, not_or]; exact ⟨hne, h1⟩, h2⟩
theorem restE_length (vs : List Nat) : (restE ρ1 ρ2 vs).length = ρ2.length := by
  induction vs with
  | nil => rfl
  | cons v vs ih => show ((restE ρ1 ρ2 vs).set v _).length = _; rw [List.length_set, ih]
theorem restE_get {vs : List Nat} {i : Nat} {l : Lc} (h : (restE ρ1 ρ2 vs)[i]? = some (some l)) : (i ∈ vs ∧ ρ1[i]? = some (some l)) ∨ (i ∉ vs ∧ ρ2[i]? = some (some l)) := by
  induction vs with
  | nil => exact .inr ⟨by simp, h⟩
  | cons v vs ih =>
    have h : ((restE ρ1 ρ2 vs).set v (ρ1.getD v none))[i]? = some (some l) := h
    rcases set_get h with ⟨rfl, _, z⟩ | ⟨hne, h⟩
    · refine .inl ⟨List.mem_cons_self, ?_⟩
      rw [List.getD_eq_getElem?_getD] at z
      cases q : ρ1[i]? with
      | none => rw [q] at z; simp at z
      | some w => rw [q] at z; simp at z; rw [← z]
    · rcases ih h with ⟨a, b⟩ | ⟨a, b⟩
      · exact .inl ⟨List.mem_cons_of_mem _ a, b⟩
      · exact .inr ⟨by simp only [List.mem_cons, not_or]; exact ⟨hne, a⟩, b⟩
theorem wipe_eq {σ' : L2.St} {vs : List Nat} (hl : σ'.length = σ.length) (h : ∀ j, j ∉ vs → σ'[j]? = σ[j]?) : wipe σ' vs = wipe σ vs := by
  have key : ∀ {τ : L2.St} {i : Nat}, i < τ.length → i ∈ vs → (wipe τ vs)[i]? = some none := by
    intro τ i hi hm
    clear h
    induction vs with
    | nil => simp at hm
    | cons v vs ih =>
      show ((wipe τ vs).set v none)[i]? = _
      by_cases hv : v = i
      · subst hv; rw [List.getElem?_set_self (by rw [wipe_length]; exact hi)]
      · rw [List.getElem?_set_ne hv]
        exact ih ((List.mem_cons.mp hm).resolve_left (Ne.symm hv))
  apply List.ext_getElem?
  intro i
  by_cases hm : i ∈ vs
  · by_cases hi : i < σ.length
    · rw [key (by rw [hl]; exact hi) hm, key hi hm]
    · rw [List.getElem?_eq_none (by rw [wipe_length, hl]; omega), List.getElem?_eq_none (by rw [wipe_length]; omega)]
  · rw [wipe_ne hm, wipe_ne hm, h i hm]
theorem wipe_only {σ' : L2.St} {is vs : List Nat} (hs : ∀ i ∈ is, i ∈ vs) (o : Only is (wipe σ vs) σ') : wipe σ' vs = wipe σ vs := by
  refine wipe_eq (by rw [o.1, wipe_length]) fun j hj => ?_
  rw [o.2 j fun z => hj (hs j z), wipe_ne hj]
theorem Rel.wipe [Pn] (R : Rel K G ρ F σ H) (vs : List Nat) {σ' : L2.St} (hl : σ'.length = σ.length) (h : ∀ j, j ∉ vs → σ'[j]? = σ[j]?) : Rel K G (wipeE ρ vs) F σ' H :=
  R.weak (by rw [wipeE_length, hl]; exact R.len) fun i l e => ⟨(wipeE_get e).2, h i (wipeE_get e).1⟩
theorem Rel.rest [Pn] (R1 : Rel K G ρ1 F1 σ H1) (vs : List Nat) (hf : lcFree ρ1 vs = true) (R2 : Rel K G (wipeE ρ2 vs) F2 (L2.wipe σ vs) H) (s : Same F1 F2) : Rel K G (restE ρ1 (wipeE ρ2 vs) vs) F2 σ H := by
  have nown : ∀ {i : Nat} {l : Lc}, i ∈ vs → ρ1[i]? = some (some l) → l.own = false := fun {i l} hi e => by
    have := List.all_eq_true.mp hf i hi
    rw [e] at this
    simpa using this
  refine ⟨R2.fh, R2.ff, R2.fr, R2.nw, R2.ih, ?_, fun i l e => ?_, fun i j l m v e1 e2 h1 h2 e3 e4 => ?_, R2.ok, fun i l b xs e hb => ?_⟩
  · rw [restE_length, ← R2.len, wipe_length]
  · rcases restE_get e with ⟨hi, e⟩ | ⟨hi, e⟩
    · have z := R1.sl i l e
      rcases not_own (nown hi e) with ⟨x, rfl⟩ | ⟨w, rfl⟩
      · obtain ⟨v, e1, d⟩ := z; exact ⟨v, e1, d.mono s⟩
      · obtain ⟨v, e1, d⟩ := z; exact ⟨v, e1, d.mono s⟩
    · have z := R2.sl i l e
      rw [wipe_ne hi] at z; exact z
  · rcases restE_get e1 with ⟨hi, q⟩ | ⟨hi, q⟩
    · rw [nown hi q] at h1; cases h1
    · rcases restE_get e2 with ⟨hj, q2⟩ | ⟨hj, q2⟩
      · rw [nown hj q2] at h2; cases h2
      · exact R2.ds i j l m v q q2 h1 h2 (by rw [wipe_ne hi]; exact e3) (by rw [wipe_ne hj]; exact e4)
  · rcases restE_get e with ⟨hi, q⟩ | ⟨hi, q⟩
    · rw [Lc.fp_own (nown hi q)] at hb; cases hb
    · obtain ⟨z, w⟩ := R2.ns i l b xs q hb
      refine ⟨z, fun j m e2 => ?_⟩
      rcases restE_get e2 with ⟨hj, q2⟩ | ⟨hj, q2⟩
      · have no := nown hj q2
        exact ⟨fun z => (by rw [no] at z; cases z), fun ys hy => (by rw [Lc.fp_own no] at hy; cases hy)⟩
      · have := w j m q2
        rw [wipe_ne hj] at this; exact this
theorem Rel.side [Pn] {p : Addr} {o : HO} (R : Rel K G ρ F σ H) (hF : F p = none) (h0 : G.H0 p = none) (hf : ∀ (j : Nat) (m : Lc), ρ[j]? = some (some m) → m.own = true → σ[j]? ≠ some (some (.ref p))) (hn : NoN ρ p) : Rel K G ρ F σ (upd H p o) := by
  refine ⟨fun b u q => ?_, R.ff, fun b u q hb => ?_, R.nw, fun b hb => ⟨?_, (R.ih b hb).2⟩, R.len, fun i l e => ?_, R.ds, R.ok, fun i l b xs e hb => ⟨⟨(R.ns i l b xs e hb).1.nf, (R.ns i l b xs e hb).1.ow, ?_⟩, (R.ns i l b xs e hb).2⟩⟩
  · rw [upd_ne (ne_of_none q hF)]; exact R.fh _ _ q
  · rw [upd_ne (ne_of_none q h0)]; exact R.fr b u q hb
  · by_cases hbp : b = p
    · subst hbp; rw [upd_same]; simp
    · rw [upd_ne hbp]; exact (R.ih b hb).1
  · have z := R.sl i l e
    cases hl : l.own with
    | true =>
      rw [own_slot hl] at z ⊢
      obtain ⟨a, e1, nf, ow, ob, eo, ok⟩ := z
      have : a ≠ p := fun q => hf i l e hl (by rw [e1, q])
      exact ⟨a, e1, nf, ow, ob, by rw [upd_ne this]; exact eo, ok⟩
    | false =>
      rcases not_own hl with ⟨x, rfl⟩ | ⟨w, rfl⟩
      · exact z
      · exact z
  · obtain ⟨vs, z1, z2⟩ := (R.ns i l b xs e hb).1.ob
    exact ⟨vs, by rw [upd_ne fun q => hn i l xs e (by rw [← q]; exact hb)]; exact z1, z2⟩
def Wk.apart (vs : List Nat) : Wk → Bool
  | .items _ => true
  | .own s _ _ => !vs.contains s
  | .nst _ _ _ _ => true
def fLc (src : TId) (vs : List Nat) (pt : Pt) (c : TTd) (el : TD) : TF := fun ρ Q => src ρ fun w ρ1 => (lcFree ρ1 vs = true ∧ w.apart vs = true) ∧ ∃ I : Nat → List PD → En → Prop, I 0 [] (wipeE ρ1 vs) ∧
  (∀ i acc ρ2, I i acc ρ2 → w.keeps ρ2) ∧
  (∀ i x acc ρ2, w.list[i]? = some x → I i acc ρ2 → pt.go x ρ2 fun ρ3 => c ρ3 fun b ρ4 => brB b (el ρ4 fun y ρ5 => acc.length < sizeLine ∧ I (i + 1) (acc ++ [y]) (wipeE ρ5 vs)) (I (i + 1) acc (wipeE ρ4 vs))) ∧
  ∀ acc ρ2, I w.list.length acc ρ2 → Q (.ls none acc) (restE ρ1 ρ2 vs)
theorem tLc_of [Pn] {src : TId} {vs : List Nat} {pt : Pt} (hs : ∀ i ∈ pt.slots, i ∈ vs) {Q : VK} (h : liftF K (fLc src vs pt c el) σ H Q) : tLc (liftI K src) (pt.tg K) (liftT K c) (liftD K el) vs σ H Q := by
  obtain ⟨G, ρ, F, Q', R, q, k⟩ := h
  refine ⟨G, ρ, F, _, R, q, fun w ρ1 H1 F1 J q1 R1 s1 wk D hD => ?_⟩
  obtain ⟨⟨hfree, hap⟩, I, i0, ikeep, turn, fin⟩ := q1
  have h0 : G.H0 D = none := R1.h0 hD
  have dio : D ∉ G.io := fun z => (R1.ih D z).2 h0
  have kS : w.keepS (L2.wipe σ vs) σ := by
    cases w with
    | items xs => trivial
    | nst s nm b xs => trivial
    | own s p xs =>
      have : s ∉ vs := by simpa [Wk.apart] using hap
      exact wipe_ne this
  let Hd := fun (i : Nat) (H : Hp) => ∃ ρ2 F2 accV acc, Rel K G (wipeE ρ2 vs) F2 (L2.wipe σ vs) H ∧ Same F1 F2 ∧ H D = some (.lst accV) ∧ DfA K F2 accV acc ∧ F2 D = none ∧ NoN (wipeE ρ2 vs) D ∧
    (∀ (j : Nat) (m : Lc), (wipeE ρ2 vs)[j]? = some (some m) → m.own = true → (L2.wipe σ vs)[j]? ≠ some (some (.ref D))) ∧ I i acc (wipeE ρ2 vs)
  have start : Hd 0 (upd H1 D (.lst [])) := by
    have Rw := R1.wipe vs (σ' := L2.wipe σ vs) (wipe_length σ vs) fun j hj => wipe_ne hj
    refine ⟨ρ1, F1, [], [], Rw.grow (Grow.owned R1.fh hD _), Same.refl _, upd_same, .nil, R1.fh.free hD, ((R1.noN_free hD).sub fun j m e => (wipeE_get e).2), fun j m e hm z => ?_, i0⟩
    obtain ⟨a, e1, _, _, ob, eo, _⟩ := Rw.at_ e hm
    rw [z] at e1
    have : D = a := by simpa using e1
    subst this
    rw [hD] at eo; cases eo
  refine ⟨fun i m H => m = w.list.length - i ∧ i ≤ w.list.length ∧ Hd i H, ⟨w.list.length, rfl, Nat.zero_le _, start⟩, ?_⟩
  rintro i m H2 ⟨rfl, hi, ρ2, F2, accV, acc, R2, s2, hDv, dA, fD, nN, nD, i2⟩
  obtain ⟨wstop, wgo⟩ := wk G i _ F2 _ H2 R2 s2 (ikeep _ _ _ i2) kS
  by_cases hlt : i < w.list.length
  · obtain ⟨go, yld⟩ := wgo hlt
    refine .inr ⟨go, Hd (i + 1), fun H' h => ⟨_, by omega, rfl, hlt, h⟩, fun x H' y => ?_⟩
    obtain ⟨F', d, g, ed, dd⟩ := yld x H' y
    have R3 := R2.grow g
    have fD' : F' D = none := by
      cases q : F' D with
      | none => rfl
      | some u =>
        rcases g.nw D (by rw [q]; simp) fD with this | ⟨us, this⟩
        · rw [hDv] at this; cases this
        · have this := g.fh _ _ this
          rw [g.hh _ _ hDv] at this; cases this
    have Rp := R3.pin fD' (g.hh _ _ hDv) h0 nD nN
    refine pt_go pt Rp dd (turn i d acc _ ed i2) fun ρ3 σ3 q3 R4 o3 => ⟨wipe_only hs o3, G.pin D (.lst accV), ρ3, F', _, R4, q3, fun b ρ4 H4 F4 h4 R5 s5 => ?_⟩
    have hj : ∀ j, j ∉ vs → (L2.wipe σ vs)[j]? = σ3[j]? := fun j hj => (o3.2 j fun z => hj (hs j z)).symm
    have hl3 : (L2.wipe σ vs).length = σ3.length := o3.1.symm
    cases b with
    | false =>
      obtain ⟨R6, f6, h6, n6⟩ := R5.unpin R1.ok h0 (R1.ff.free (R1.fh.free hD)) dio
      refine iteF ⟨ρ4, F4, accV, acc, R6.wipe vs hl3 hj, s2.trans (g.ff.trans s5), h6, dA.mono (g.ff.trans s5), f6, ((R5.unpinN dio).sub fun j m e => (wipeE_get e).2), fun j m e hm z => ?_, h4.2 rfl⟩
      obtain ⟨a, b⟩ := wipeE_get e
      exact n6 j m b hm (by rw [← hj j a]; exact z)
    | true =>
      refine iteT ⟨G.pin D (.lst accV), ρ4, F4, _, R5, h4.1 rfl, fun y ρ5 u H5 F5 h5 R7 s7 dy => ?_⟩
      obtain ⟨hlen, h5⟩ := h5
      obtain ⟨R6, f6, h6, n6⟩ := R7.unpin R1.ok h0 (R1.ff.free (R1.fh.free hD)) dio
      have sA := g.ff.trans (s5.trans s7)
      refine ⟨accV, h6, by rw [dA.length]; exact hlen, ρ5, F5, accV ++ [u], acc ++ [y], ?_, s2.trans sA, upd_same, (dA.mono sA).snoc dy, f6, ((R7.unpinN dio).sub fun j m e => (wipeE_get e).2), fun j m e hm z => ?_, h5⟩
      · exact (R6.side f6 h0 n6 (R7.unpinN dio)).wipe vs hl3 hj
      · obtain ⟨a, b⟩ := wipeE_get e
        exact n6 j m b hm (by rw [← hj j a]; exact z)
  · have ei : i = w.list.length := by omega
    subst ei
    refine .inl ⟨wstop (Nat.le_refl _), k (.ls none acc) _ _ H2 F2 (fin acc _ i2) (R1.rest vs hfree R2 s2) (s1.trans s2) ⟨D, rfl, rfl, ⟨fD, h0, _, hDv, dA⟩, ⟨fun j m e hm z => ?_, fun j m ys e hy => ?_, .nil rfl⟩⟩⟩
    · rcases restE_get e with ⟨hj, e⟩ | ⟨hj, e⟩
      · have := List.all_eq_true.mp hfree j hj
        rw [e] at this
        have this : (!m.own) = true := this
        rw [hm] at this; cases this
      · exact nD j m e hm (by rw [wipe_ne hj]; exact z)
    · rcases restE_get e with ⟨hj, e⟩ | ⟨hj, e⟩
      · have := List.all_eq_true.mp hfree j hj
        rw [e] at this
        have this : (!m.own) = true := this
        rw [Lc.fp_own (by simpa using this)] at hy; cases hy
      · exact nN j m ys e hy
def cYes : TTd := fun ρ Q => Q true ρ
theorem LT.yes [Pn] : ∀ {X : Cx}, PTs X [] (liftT X.K cYes) := fun {X} => ⟨fun pins s σ H Q I h => pts_nil.run pins s σ H Q I (by
  obtain ⟨G, ρ, F, Q', R, q, k⟩ := h
  exact k _ _ _ _ q R (Same.refl _))⟩
theorem LF.lc [Pn] {scope : Scope} {own : List (Str × Nat)} {vs : List Nat} {src : TId} {pt : Pt} (hc : X.calm = true) (hN : X.N.Nodup) (hi : LI X tg iter src) (ok : BlkOk X.N X.env.scope scope own) (hv : own.map (·.2) = vs) (hs : ∀ i ∈ pt.slots, i ∈ vs)
    (hg : ∀ (s : Shared) (H : Hp) (C : Addr) (cl : List (Str × Addr)) (fp : List Addr), PG (X.blk s H scope (compEnvC scope cl C X.env) fp) tg (pt.tg X.K)) (ht : ∀ (s : Shared) (H : Hp) (C : Addr) (cl : List (Str × Addr)) (fp : List Addr), PTs (X.blk s H scope (compEnvC scope cl C X.env) fp) ifs (liftT X.K c))
    (he : ∀ (s : Shared) (H : Hp) (C : Addr) (cl : List (Str × Addr)) (fp : List Addr), LD (X.blk s H scope (compEnvC scope cl C X.env) fp) elt el) (hf : ∀ x, foldedSetIterable iter X.env x = pure x := by intro _; rfl) :
    LF X (.ListComp elt [⟨tg, iter, ifs, 0⟩] scope pos) (fLc src vs pt c el) := ⟨peImp (pe_lc hc hN hi.p ok hg ht (fun s H C cl fp => (he s H C cl fp).p) hf) fun σ H Q h => by rw [hv]; exact tLc_of hs h⟩
theorem LS.lc [Pn] {i : Nat} {y : Str} {py spos : Pos} {scope : Scope} {own : List (Str × Nat)} {vs : List Nat} {src : TId} {pt : Pt} (hc : X.calm = true) (hN : X.N.Nodup) (hy : X.N[i]? = some y) (hyl : X.env.scope.names.lookup y = some .local)
    (hsw : swapsWith (.ListComp elt [⟨tg, iter, ifs, 0⟩] scope pos) (some (.Name y py)) spos.line X.env = pure true) (hi : LI X tg iter src) (ok : BlkOk X.N X.env.scope scope own) (hv : own.map (·.2) = vs) (hs : ∀ i ∈ pt.slots, i ∈ vs)
    (hg : ∀ (s : Shared) (H : Hp) (C : Addr) (cl : List (Str × Addr)) (fp : List Addr), PG (X.blk s H scope (compEnvC scope cl C X.env) fp) tg (pt.tg X.K)) (ht : ∀ (s : Shared) (H : Hp) (C : Addr) (cl : List (Str × Addr)) (fp : List Addr), PTs (X.blk s H scope (compEnvC scope cl C X.env) fp) ifs (liftT X.K c))
    (he : ∀ (s : Shared) (H : Hp) (C : Addr) (cl : List (Str × Addr)) (fp : List Addr), LD (X.blk s H scope (compEnvC scope cl C X.env) fp) elt el) (hf : ∀ x, foldedSetIterable iter X.env x = pure x := by intro _; rfl) :
    LS X (.Assign [.Name y py] (.ListComp elt [⟨tg, iter, ifs, 0⟩] scope pos) spos) (sAsg i (fLc src vs pt c el)) := ⟨psImp (ps_setLc hc hN hy hyl hsw hi.p ok hg ht (fun s H C cl fp => (he s H C cl fp).p) hf) fun D σ H ⟨G, ρ, F, D', R, q, k⟩ => by
  have h : liftF X.K (fLc src vs pt c el) σ H (fun x H1 => gName i x σ H1 D.nx) := ⟨G, ρ, F, _, R, q, fun l ρ1 v H1 F1 h1 R1 s1 r1 => k.nx _ _ _ _ h1 (r1.store R1 i) s1⟩
  show tLc _ _ _ _ (own.map (·.2)) σ H _
  rw [hv]
  exact tLc_of hs h⟩
structure FSpec where
  sp : List Lc → (Lc → List Lc → Prop) → Prop
def ArgOk (K : PySem.W.Frag) (F H : Hp) (ios : List Addr) : Lc → V → Prop
  | .d x, v => Df K F v x
  | .sc xs, v => ScOk K F xs v
  | l, v => ∃ a k, v = .ref a ∧ l.tag = some k ∧ ios[k]? = some a ∧ F a = none ∧ (∃ o, H a = some o ∧ HoOk K F l o) ∧ ∀ b xs, (b, xs) ∈ l.fp → F b = none ∧ ∃ vs, H b = some (.lst vs) ∧ DfA K F vs xs
inductive ArgsOk (K : PySem.W.Frag) (F H : Hp) (ios : List Addr) : List Lc → List V → Prop
  | nil : ArgsOk K F H ios [] []
  | cons {l : Lc} {v : V} {ls : List Lc} {vs : List V} : ArgOk K F H ios l v → ArgsOk K F H ios ls vs → ArgsOk K F H ios (l :: ls) (v :: vs)
def tags (ls : List Lc) : List Nat := ls.filterMap Lc.tag
def nioOf : List Lc → List (Nat × Addr)
  | [] => []
  | l :: r => (match l.tag with
    | some k => l.fp.map fun x => (k, x.1)
    | none => []) ++ nioOf r
theorem nioOf_mem : ∀ {args : List Lc} {k : Nat} {b : Addr}, (k, b) ∈ nioOf args → ∃ (i : Nat) (l : Lc) (xs : List PD), args[i]? = some l ∧ l.tag = some k ∧ (b, xs) ∈ l.fp
  | [], k, b, h => by cases h
  | l :: r, k, b, h => by
    unfold nioOf at h
    rcases List.mem_append.mp h with h | h
    · cases e : l.tag with
      | none => rw [e] at h; cases h
      | some j =>
        rw [e] at h
        obtain ⟨x, hx, ex⟩ := List.mem_map.mp h
        have e1 : j = k := (Prod.mk.inj ex).1
        have e2 : x.1 = b := (Prod.mk.inj ex).2
        exact ⟨0, l, x.2, rfl, by rw [e, e1], by rw [← e2]; exact hx⟩
    · obtain ⟨i, m, xs, z⟩ := nioOf_mem h
      exact ⟨i + 1, m, xs, by simpa using z⟩
theorem nioOf_in : ∀ {args : List Lc} {i k : Nat} {l : Lc} {b : Addr} {xs : List PD}, args[i]? = some l → l.tag = some k → (b, xs) ∈ l.fp → (k, b) ∈ nioOf args
  | [], i, k, l, b, xs, e, _, _ => by simp at e
  | a :: r, i, k, l, b, xs, e, t, h => by
    unfold nioOf
    refine List.mem_append.mpr ?_
    cases i with
    | zero =>
      simp at e; subst e
      rw [t]
      exact .inl (List.mem_map.mpr ⟨(b, xs), h, rfl⟩)
    | succ i => exact .inr (nioOf_in (by simpa using e) t h)
structure IoOk (H : Hp) (ios : List Addr) (n : Nat) (args : List Lc) : Prop where
  nd : ios.Nodup
  ex : ∀ a ∈ ios, H a ≠ none
  tg : tags args = List.range n
  le : n ≤ ios.length
  nx : ∀ k b, (k, b) ∈ nioOf args → b ∈ ios.drop n
  dj : ∀ (i j : Nat) (l m : Lc) (b : Addr) (xs ys : List PD), args[i]? = some l → args[j]? = some m → (b, xs) ∈ l.fp → (b, ys) ∈ m.fp → i = j
theorem drop_ne {ios : List Addr} {n k : Nat} {a b : Addr} (nd : ios.Nodup) (h : b ∈ ios.drop n) (hk : k < n) (e : ios[k]? = some a) : a ≠ b := fun q => by
  subst q
  obtain ⟨j, hj, ej⟩ := List.getElem_of_mem h
  rw [List.getElem_drop] at ej
  obtain ⟨hk', ek⟩ := List.getElem?_eq_some_iff.mp e
  have hj2 : n + j < ios.length := by rw [List.length_drop] at hj; omega
  have := (List.getElem_inj (h₀ := hj2) (h₁ := hk') nd).mp (ej.trans ek.symm)
  omega
structure Post (K : PySem.W.Frag) (F H : Hp) (ios : List Addr) (n : Nat) (nio : List (Nat × Addr)) (r : Lc) (outs : List Lc) (v : V) (F' H' : Hp) : Prop where
  ff : Same F F'
  fh : Same F' H'
  fr : ∀ b o, H b = some o → b ∉ ios → H' b = some o
  nw : ∀ b, F' b ≠ none → F b = none → H b = none ∨ ∃ us, F' b = some (.tup us)
  ol : outs.length = n
  ou : ∀ (k : Nat) (l : Lc), outs[k]? = some l → ∃ a o, ios[k]? = some a ∧ F' a = none ∧ H' a = some o ∧ HoOk K F' l o ∧ l.tag = some k
  hx : ∀ a ∈ ios, H' a ≠ none
  on : ∀ (k : Nat) (l : Lc) (b : Addr) (xs : List PD), outs[k]? = some l → (b, xs) ∈ l.fp → (F' b = none ∧ (H b = none ∨ (k, b) ∈ nio) ∧ ∃ vs, H' b = some (.lst vs) ∧ DfA K F' vs xs) ∧ (∀ k', k' < n → ios[k']? ≠ some b) ∧ ∀ (k' : Nat) (m : Lc) (ys : List PD), outs[k']? = some m → (b, ys) ∈ m.fp → k' = k
  rs : match r with
    | .d x => Df K F' v x
    | .sc xs => ScOk K F' xs v
    | l => ∃ a o, v = .ref a ∧ H a = none ∧ F' a = none ∧ H' a = some o ∧ HoOk K F' l o ∧ l.tag = none
  rn : ∀ (b : Addr) (xs : List PD), (b, xs) ∈ r.fp → (F' b = none ∧ H b = none ∧ ∃ vs, H' b = some (.lst vs) ∧ DfA K F' vs xs) ∧ v ≠ .ref b ∧ ∀ (k : Nat) (m : Lc) (ys : List PD), outs[k]? = some m → (b, ys) ∉ m.fp
  ra : ∀ a, r.own = true → v = .ref a → ∀ (k : Nat) (m : Lc) (ys : List PD), outs[k]? = some m → (a, ys) ∉ m.fp
def liftC (K : PySem.W.Frag) (S : FSpec) : Sp := fun vs H Q _ => ∃ args F ios n Qd, Same F H ∧ ArgsOk K F H ios args vs ∧ IoOk H ios n args ∧
  S.sp args Qd ∧ ∀ r outs v F' H', Qd r outs → Post K F H ios n (nioOf args) r outs v F' H' → Q v H'
theorem ArgsOk.length {ios : List Addr} {ls : List Lc} {vs : List V} (h : ArgsOk K F H ios ls vs) : ls.length = vs.length := by
  induction h with
  | nil => rfl
  | cons _ _ ih => rw [List.length_cons, List.length_cons, ih]
def argsAt (ρ : En) : List AV → Nat → Option (List Lc × List Nat)
  | [], _ => some ([], [])
  | .v x :: r, k => (argsAt ρ r k).map fun p => (.d x :: p.1, p.2)
  | .s i :: r, k => match ρ[i]? with
    | some (some (.d x)) => (argsAt ρ r k).map fun p => (.d x :: p.1, p.2)
    | some (some (.sc xs)) => (argsAt ρ r k).map fun p => (.sc xs :: p.1, p.2)
    | some (some l) => (argsAt ρ r (k + 1)).map fun p => (l.retag (some k) :: p.1, i :: p.2)
    | _ => none
  | .f _ _ _ :: _, _ => none
def nodupB : List Nat → Bool
  | [] => true
  | i :: r => !r.contains i && nodupB r
theorem nodup_of {is : List Nat} (h : nodupB is = true) : is.Nodup := by
  induction is with
  | nil => exact List.nodup_nil
  | cons i r ih =>
    unfold nodupB at h
    rw [Bool.and_eq_true] at h
    exact List.nodup_cons.mpr ⟨by simpa using h.1, ih h.2⟩
def tagAt (ρ : En) (i : Nat) : Option Nat := match ρ[i]? with
  | some (some l) => l.tag
  | _ => none
def putO (ρ0 : En) : En → List Nat → List Lc → En
  | ρ, i :: is, l :: ls => putO ρ0 (ρ.set i (some (l.retag (tagAt ρ0 i)))) is ls
  | ρ, _, _ => ρ
def putF (ρ0 : En) : En → List Nat → List Lc → (En → Prop) → Prop
  | ρ, i :: is, l :: ls, k => match tagAt ρ0 i with
    | none => force (ρ.set i (some (l.retag none))) fun ρ' => putF ρ0 ρ' is ls k
    | some j => force (ρ.set i (some (l.retag (some j)))) fun ρ' => putF ρ0 ρ' is ls k
  | ρ, _, _, k => k ρ
theorem putF_eq {ρ0 : En} : ∀ (is : List Nat) (ls : List Lc) (ρ : En) (k : En → Prop), putF ρ0 ρ is ls k = k (putO ρ0 ρ is ls)
  | [], ls, ρ, k => by cases ls <;> rfl
  | i :: is, [], ρ, k => rfl
  | i :: is, l :: ls, ρ, k => by
    unfold putF putO
    cases tagAt ρ0 i with
    | none => dsimp only; rw [force_eq, putF_eq is ls]
    | some j => dsimp only; rw [force_eq, putF_eq is ls]
def fCall (S : FSpec) (t : TAd) : TF := fun ρ Q => t ρ fun as ρ1 => match argsAt ρ1 as 0 with
  | some (args, is) => nodupB is = true ∧ S.sp args fun r outs => putF ρ1 ρ1 is outs fun ρ2 => Q r ρ2
  | none => False
theorem putO_length {ρ0 : En} {is : List Nat} {ls : List Lc} : (putO ρ0 ρ is ls).length = ρ.length := by
  induction is generalizing ρ ls with
  | nil => cases ls <;> rfl
  | cons i is ih =>
    cases ls with
    | nil => rfl
    | cons l ls => show (putO ρ0 (ρ.set i _) is ls).length = _; rw [ih, List.length_set]
theorem putO_get {ρ0 : En} {is : List Nat} {ls : List Lc} {j : Nat} {l : Lc} (hn : is.Nodup) (hl : ls.length = is.length) (h : (putO ρ0 ρ is ls)[j]? = some (some l)) :
    (j ∉ is ∧ ρ[j]? = some (some l)) ∨ ∃ (k : Nat) (m : Lc), is[k]? = some j ∧ ls[k]? = some m ∧ l = m.retag (tagAt ρ0 j) := by
  induction is generalizing ρ ls with
  | nil => cases ls <;> exact .inl ⟨by simp, h⟩
  | cons i is ih =>
    cases ls with
    | nil => simp at hl
    | cons m ls =>
      have h : (putO ρ0 (ρ.set i (some (m.retag (tagAt ρ0 i)))) is ls)[j]? = some (some l) := h
      rw [List.nodup_cons] at hn
      rcases ih hn.2 (by simpa using hl) h with ⟨h1, h2⟩ | ⟨k, m', h1, h2, h3⟩
      · rcases set_get h2 with ⟨rfl, _, z⟩ | ⟨hne, h2⟩
        · cases z; exact .inr ⟨0, m, rfl, rfl, rfl⟩
        · exact .inl ⟨by simp only [List.mem_cons, not_or]; exact ⟨hne, h1⟩, h2⟩
      · exact .inr ⟨k + 1, m', by simpa using h1, by simpa using h2, h3⟩
theorem argsAt_ok [Pn] (R : Rel K G ρ F σ H) : ∀ {as : List AV} {vs : List V} {k : Nat} {args : List Lc} {is : List Nat}, AvA K F σ as vs → argsAt ρ as k = some (args, is) → ∀ pre : List Addr, pre.length = k →
    ∃ post : List Addr, post.length = is.length ∧ (∀ (j i : Nat), is[j]? = some i → ∃ a l, post[j]? = some a ∧ σ[i]? = some (some (.ref a)) ∧ ρ[i]? = some (some l) ∧ l.own = true) ∧
      ArgsOk K F H (pre ++ post) args vs ∧ tags args = List.range' k is.length
  | _, _, k, args, is, .nil, e, pre, hp => by
    have e : some (([] : List Lc), ([] : List Nat)) = some (args, is) := e
    cases e
    exact ⟨[], rfl, fun j i z => by simp at z, .nil, rfl⟩
  | .v x :: r, v :: vs, k, args, is, .cons a t, e, pre, hp => by
    have e : (argsAt ρ r k).map (fun p => (Lc.d x :: p.1, p.2)) = some (args, is) := e
    cases q : argsAt ρ r k with
    | none => rw [q] at e; cases e
    | some p =>
      obtain ⟨as', is'⟩ := p
      rw [q] at e; cases e
      obtain ⟨post, h1, h2, h3, h4⟩ := argsAt_ok R t q pre hp
      exact ⟨post, h1, h2, .cons a h3, h4⟩
  | .f _ _ _ :: r, v :: vs, k, args, is, .cons a t, e, pre, hp => by
    have e : (none : Option (List Lc × List Nat)) = some (args, is) := e
    cases e
  | .s i :: r, v :: vs, k, args, is, .cons a t, e, pre, hp => by
    have a : σ[i]? = some (some v) := a
    unfold argsAt at e
    split at e
    · rename_i x er
      cases q : argsAt ρ r k with
      | none => rw [q] at e; cases e
      | some p =>
        obtain ⟨as', is'⟩ := p
        rw [q] at e; cases e
        obtain ⟨post, h1, h2, h3, h4⟩ := argsAt_ok R t q pre hp
        obtain ⟨w, ew, d⟩ := R.sl i _ er
        rw [a] at ew
        have : v = w := by simpa using ew
        subst this
        exact ⟨post, h1, h2, .cons d h3, h4⟩
    · rename_i u er
      cases q : argsAt ρ r k with
      | none => rw [q] at e; cases e
      | some p =>
        obtain ⟨as', is'⟩ := p
        rw [q] at e; cases e
        obtain ⟨post, h1, h2, h3, h4⟩ := argsAt_ok R t q pre hp
        obtain ⟨w, ew, d⟩ := R.sl i _ er
        rw [a] at ew
        have : v = w := by simpa using ew
        subst this
        exact ⟨post, h1, h2, .cons d h3, h4⟩
    · rename_i l n1 n2 er
      have ho : l.own = true := by
        cases l with
        | d x => exact absurd rfl (n1 x)
        | sc u => exact absurd rfl (n2 u)
        | _ => rfl
      obtain ⟨b, es, at_⟩ := R.at_ er ho
      cases q : argsAt ρ r (k + 1) with
      | none => rw [q] at e; cases e
      | some p =>
        obtain ⟨as', is'⟩ := p
        rw [q] at e; cases e
        obtain ⟨post, h1, h2, h3, h4⟩ := argsAt_ok R t q (pre ++ [b]) (by rw [List.length_append, hp]; rfl)
        rw [a] at es
        have ev : v = .ref b := by simpa using es
        have z : ∃ a' k', v = .ref a' ∧ (l.retag (some k)).tag = some k' ∧ (pre ++ b :: post)[k']? = some a' ∧ F a' = none ∧ (∃ o, H a' = some o ∧ HoOk K F (l.retag (some k)) o) ∧ ∀ c xs, (c, xs) ∈ (l.retag (some k)).fp → F c = none ∧ ∃ vs, H c = some (.lst vs) ∧ DfA K F vs xs := by
          obtain ⟨o, eo, ok⟩ := at_.ob
          refine ⟨b, k, ev, Lc.retag_tag _ _ ho, by rw [← hp]; simp, at_.nf, ⟨o, eo, ok.retag _⟩, fun c xs hc => ?_⟩
          rw [Lc.retag_fp] at hc
          have := (R.ns _ _ _ _ er hc).1
          exact ⟨this.nf, this.ob⟩
        refine ⟨b :: post, by rw [List.length_cons, List.length_cons, h1], fun j i' e' => ?_, .cons ?_ (by rw [List.append_assoc] at h3; exact h3), ?_⟩
        · cases j with
          | zero => simp at e'; subst e'; exact ⟨b, l, rfl, by rw [a, ev], er, ho⟩
          | succ j => obtain ⟨a', l', q1, q2⟩ := h2 j i' (by simpa using e'); exact ⟨a', l', by simpa using q1, q2⟩
        · cases l <;> first | (simp [Lc.own] at ho; done) | exact z
        · show List.filterMap Lc.tag (l.retag (some k) :: as') = _
          rw [List.filterMap_cons, Lc.retag_tag _ _ ho]
          show k :: tags as' = _
          rw [h4]; rfl
    · cases e
theorem nodup_post [Pn] (R : Rel K G ρ F σ H) {is : List Nat} {post : List Addr} (hl : post.length = is.length) (h : ∀ (j i : Nat), is[j]? = some i → ∃ a l, post[j]? = some a ∧ σ[i]? = some (some (.ref a)) ∧ ρ[i]? = some (some l) ∧ l.own = true) (hn : is.Nodup) : post.Nodup := by
  rw [List.nodup_iff_pairwise_ne, List.pairwise_iff_getElem]
  intro i j hi hj hij e
  have hi' : i < is.length := by omega
  have hj' : j < is.length := by omega
  obtain ⟨a, l, q1, q2, q3, q4⟩ := h i is[i] (List.getElem?_eq_getElem hi')
  obtain ⟨b, m, p1, p2, p3, p4⟩ := h j is[j] (List.getElem?_eq_getElem hj')
  rw [List.getElem?_eq_getElem hi] at q1
  rw [List.getElem?_eq_getElem hj] at p1
  have e1 : a = b := by
    have q1 : post[i] = a := by simpa using q1
    have p1 : post[j] = b := by simpa using p1
    rw [← q1, ← p1, e]
  subst e1
  have := R.ds _ _ l m _ q3 p3 q4 p4 q2 p2
  rw [List.nodup_iff_pairwise_ne, List.pairwise_iff_getElem] at hn
  exact hn i j hi' hj' hij this
theorem tags_inj : ∀ {args : List Lc} {i j : Nat} {l m : Lc} {k : Nat}, (tags args).Nodup → args[i]? = some l → args[j]? = some m → l.tag = some k → m.tag = some k → i = j
  | [], i, j, l, m, k, _, e1, _, _, _ => by simp at e1
  | a :: r, i, j, l, m, k, hn, e1, e2, t1, t2 => by
    have mem : ∀ {i : Nat} {l : Lc}, r[i]? = some l → l.tag = some k → k ∈ tags r := fun e t => List.mem_filterMap.mpr ⟨_, List.mem_of_getElem? e, t⟩
    unfold tags at hn
    rw [List.filterMap_cons] at hn
    cases i with
    | zero =>
      simp at e1; subst e1
      rw [t1] at hn
      cases j with
      | zero => rfl
      | succ j => exact absurd (mem (by simpa using e2) t2) (List.nodup_cons.mp hn).1
    | succ i =>
      cases j with
      | zero =>
        simp at e2; subst e2
        rw [t2] at hn
        exact absurd (mem (by simpa using e1) t1) (List.nodup_cons.mp hn).1
      | succ j =>
        have hn' : (tags r).Nodup := by
          cases q : a.tag with
          | none => rw [q] at hn; exact hn
          | some k' => rw [q] at hn; exact (List.nodup_cons.mp hn).2
        exact congrArg (· + 1) (tags_inj hn' (by simpa using e1) (by simpa using e2) t1 t2)
theorem ArgOk.more {ios rest : List Addr} {l : Lc} (h : ArgOk K F H ios l v) : ArgOk K F H (ios ++ rest) l v := by
  cases l <;> first | exact h | (obtain ⟨a, k, e1, e2, e3, e4⟩ := h; exact ⟨a, k, e1, e2, by rw [List.getElem?_append_left (List.getElem?_eq_some_iff.mp e3).1]; exact e3, e4⟩)
theorem ArgsOk.more {ios rest : List Addr} : ∀ {ls : List Lc} {vs : List V}, ArgsOk K F H ios ls vs → ArgsOk K F H (ios ++ rest) ls vs
  | _, _, .nil => .nil
  | _, _, .cons a t => .cons a.more t.more
theorem dedup (l : List Nat) : ∃ r : List Nat, r.Nodup ∧ ∀ x, x ∈ r ↔ x ∈ l := by
  induction l with
  | nil => exact ⟨[], List.nodup_nil, fun _ => Iff.rfl⟩
  | cons a l ih =>
    obtain ⟨r, h1, h2⟩ := ih
    by_cases z : a ∈ r
    · exact ⟨r, h1, fun x => by rw [h2, List.mem_cons]; exact ⟨.inr, fun w => w.elim (fun e => by rw [e]; exact (h2 a).mp z) id⟩⟩
    · exact ⟨a :: r, List.nodup_cons.mpr ⟨z, h1⟩, fun x => by rw [List.mem_cons, List.mem_cons, h2]⟩
theorem argsAt_nio [Pn] (R : Rel K G ρ F σ H) : ∀ {as : List AV} {k : Nat} {args : List Lc} {is : List Nat}, argsAt ρ as k = some (args, is) → ∀ {n : Nat} {l : Lc}, args[n]? = some l → l.fp ≠ [] → ∃ (j i : Nat) (l0 : Lc), is[j]? = some i ∧ ρ[i]? = some (some l0) ∧ l0.own = true ∧ l = l0.retag (some (k + j)) ∧ l.tag = some (k + j)
  | [], k, args, is, e, n, l, en, _ => by
    have e : some (([] : List Lc), ([] : List Nat)) = some (args, is) := e
    cases e; simp at en
  | .v x :: r, k, args, is, e, n, l, en, hl => by
    have e : (argsAt ρ r k).map (fun p => (Lc.d x :: p.1, p.2)) = some (args, is) := e
    cases q : argsAt ρ r k with
    | none => rw [q] at e; cases e
    | some p =>
      obtain ⟨as', is'⟩ := p
      rw [q] at e; cases e
      cases n with
      | zero => simp at en; subst en; exact absurd rfl hl
      | succ n => exact argsAt_nio R q (by simpa using en) hl
  | .f _ _ _ :: r, k, args, is, e, n, l, en, hl => by
    have e : (none : Option (List Lc × List Nat)) = some (args, is) := e
    cases e
  | .s i :: r, k, args, is, e, n, l, en, hl => by
    unfold argsAt at e
    split at e
    · cases q : argsAt ρ r k with
      | none => rw [q] at e; cases e
      | some p =>
        obtain ⟨as', is'⟩ := p
        rw [q] at e; cases e
        cases n with
        | zero => simp at en; subst en; exact absurd rfl hl
        | succ n => exact argsAt_nio R q (by simpa using en) hl
    · cases q : argsAt ρ r k with
      | none => rw [q] at e; cases e
      | some p =>
        obtain ⟨as', is'⟩ := p
        rw [q] at e; cases e
        cases n with
        | zero => simp at en; subst en; exact absurd rfl hl
        | succ n => exact argsAt_nio R q (by simpa using en) hl
    · rename_i l1 n1 n2 er
      have ho : l1.own = true := by
        cases l1 with
        | d x => exact absurd rfl (n1 x)
        | sc u => exact absurd rfl (n2 u)
        | _ => rfl
      cases q : argsAt ρ r (k + 1) with
      | none => rw [q] at e; cases e
      | some p =>
        obtain ⟨as', is'⟩ := p
        rw [q] at e; cases e
        cases n with
        | zero => simp at en; subst en; exact ⟨0, i, l1, rfl, er, ho, rfl, Lc.retag_tag _ _ ho⟩
        | succ n =>
          obtain ⟨j, i', l0, g1, g2, g3, g4, g5⟩ := argsAt_nio R q (by simpa using en) hl
          exact ⟨j + 1, i', l0, by simpa using g1, g2, g3, by rw [g4]; congr 2; omega, by rw [g5]; congr 1; omega⟩
    · cases e
theorem argsAt_src [Pn] (R : Rel K G ρ F σ H) {as : List AV} {args : List Lc} {is : List Nat} (e : argsAt ρ as 0 = some (args, is)) {k : Nat} {b : Addr} (h : (k, b) ∈ nioOf args) : ∃ (i : Nat) (l0 : Lc) (xs : List PD), is[k]? = some i ∧ ρ[i]? = some (some l0) ∧ l0.own = true ∧ (b, xs) ∈ l0.fp := by
  obtain ⟨n, l, xs, e1, e2, e3⟩ := nioOf_mem h
  obtain ⟨j, i, l0, g1, g2, g3, g4, g5⟩ := argsAt_nio R e e1 (by intro z; rw [z] at e3; cases e3)
  rw [e2] at g5
  have : k = 0 + j := Option.some.inj g5
  have : k = j := by omega
  subst this
  exact ⟨i, l0, xs, g1, g2, g3, by rw [g4, Lc.retag_fp] at e3; exact e3⟩
theorem Rel.call [Pn] (R : Rel K G ρ F σ H) {is : List Nat} {post ios : List Addr} {nio : List (Nat × Addr)} {r : Lc} {outs : List Lc} (hl : post.length = is.length) (hn : is.Nodup)
    (h : ∀ (j i : Nat), is[j]? = some i → ∃ a l, post[j]? = some a ∧ σ[i]? = some (some (.ref a)) ∧ ρ[i]? = some (some l) ∧ l.own = true)
    (hpre : ∃ rest, ios = post ++ rest ∧ ∀ b ∈ rest, ∃ k, (k, b) ∈ nio) (hnio : ∀ k b, (k, b) ∈ nio → ∃ (i : Nat) (l0 : Lc) (xs : List PD), is[k]? = some i ∧ ρ[i]? = some (some l0) ∧ l0.own = true ∧ (b, xs) ∈ l0.fp) (P0 : Post K F H ios is.length nio r outs v F' H') :
    Rel K G (putO ρ ρ is outs) F' σ H' ∧ RsOk K G F' H' (putO ρ ρ is outs) σ r v := by
  obtain ⟨rest, eios, hrest⟩ := hpre
  have P := P0
  have hlo : outs.length = is.length := P.ol
  -- an own list within, behind the call
  have inr : ∀ {b : Addr}, b ∈ rest → ∃ (i k : Nat) (l0 : Lc) (xs : List PD), is[k]? = some i ∧ ρ[i]? = some (some l0) ∧ l0.own = true ∧ (b, xs) ∈ l0.fp := fun {b} hb => by
    obtain ⟨k, hk⟩ := hrest b hb
    obtain ⟨i, l0, xs, z⟩ := hnio k b hk
    exact ⟨i, k, l0, xs, z⟩
  -- a slot behind the call
  have slot : ∀ {j : Nat} {l : Lc}, (putO ρ ρ is outs)[j]? = some (some l) → (j ∉ is ∧ ρ[j]? = some (some l)) ∨
      ∃ (k : Nat) (m l0 : Lc) (a : Addr) (o : HO), is[k]? = some j ∧ l = m.retag l0.tag ∧ ρ[j]? = some (some l0) ∧ l0.own = true ∧ σ[j]? = some (some (.ref a)) ∧ post[k]? = some a ∧ F' a = none ∧ H' a = some o ∧ HoOk K F' m o ∧ outs[k]? = some m := fun {j l} e => by
    rcases putO_get hn hlo e with q | ⟨k, m, q1, q2, q3⟩
    · exact .inl q
    · obtain ⟨a, l0, p1, p2, p3, p4⟩ := h k j q1
      obtain ⟨a', o, z1, z2, z3, z4, z5⟩ := P.ou k m q2
      rw [eios, List.getElem?_append_left (by have := (List.getElem?_eq_some_iff.mp p1).1; exact this), p1] at z1
      have : a = a' := by simpa using z1
      subst this
      have et : tagAt ρ j = l0.tag := by unfold tagAt; rw [p3]
      rw [et] at q3
      exact .inr ⟨k, m, l0, a, o, q1, q3, p3, p4, p2, p1, z2, z3, z4, q2⟩
  have old : ∀ {j : Nat} {l : Lc}, (putO ρ ρ is outs)[j]? = some (some l) → l.own = true → ∃ l0, ρ[j]? = some (some l0) ∧ l0.own = true := fun {j l} e ho => by
    rcases slot e with ⟨_, q⟩ | ⟨k, m, l0, a, o, _, _, q, q2, _⟩
    · exact ⟨l, q, ho⟩
    · exact ⟨l0, q, q2⟩
  have keep : ∀ {j : Nat} {l : Lc} {b : Addr}, j ∉ is → ρ[j]? = some (some l) → l.own = true → σ[j]? = some (some (.ref b)) → b ∉ post := fun {j l b} hj e ho es hb => by
    obtain ⟨k, hk, ek⟩ := List.getElem_of_mem hb
    obtain ⟨a, l', p1, p2, p3, p4⟩ := h k is[k] (List.getElem?_eq_getElem (by omega))
    rw [List.getElem?_eq_getElem hk, ek] at p1
    have : b = a := by simpa using p1
    subst this
    have := R.ds j is[k] l l' _ e p3 ho p4 es p2
    exact hj (by rw [this]; exact List.getElem_mem _)
  have keep2 : ∀ {j : Nat} {l : Lc} {b : Addr}, j ∉ is → ρ[j]? = some (some l) → l.own = true → σ[j]? = some (some (.ref b)) → b ∉ ios := fun {j l b} hj e ho es hb => by
    rw [eios] at hb
    rcases List.mem_append.mp hb with hb | hb
    · exact keep hj e ho es hb
    · obtain ⟨i, k, l0, xs, _, g2, _, g4⟩ := inr hb
      exact ((R.ns i l0 b xs g2 g4).2 j l e).1 ho es
  have ioA : ∀ {a : Addr}, a ∈ post → ∃ (l : Lc) (j : Nat), ρ[j]? = some (some l) ∧ l.own = true ∧ σ[j]? = some (some (.ref a)) ∧ At K G F H l a := fun {a} ha => by
    obtain ⟨k, hk, ek⟩ := List.getElem_of_mem ha
    obtain ⟨b, l', p1, p2, p3, p4⟩ := h k is[k] (List.getElem?_eq_getElem (by omega))
    rw [List.getElem?_eq_getElem hk, ek] at p1
    have : a = b := by simpa using p1
    subst this
    obtain ⟨c, es, z⟩ := R.at_ p3 p4
    rw [p2] at es
    have : a = c := by simpa using es
    subst this
    exact ⟨l', is[k], p3, p4, p2, z⟩
  have R' : Rel K G (putO ρ ρ is outs) F' σ H' := by
    refine ⟨P.fh, R.ff.trans P.ff, fun b o e hb => ?_, fun b h1 h2 => ?_, fun a ha => ⟨?_, (R.ih a ha).2⟩, by rw [putO_length]; exact R.len, fun j l e => ?_, fun i j l m w e1 e2 h1 h2 e3 e4 => ?_, R.ok, fun i l b xs e hb => ?_⟩
    · refine P.fr b o (R.fr b o e hb) fun hm => ?_
      rw [eios] at hm
      rcases List.mem_append.mp hm with hm | hm
      · obtain ⟨l, j, _, _, _, z⟩ := ioA hm
        have ow := z.ow
        cases q : l.tag with
        | none => rw [q] at ow; have ow : G.H0 b = none := ow; rw [e] at ow; cases ow
        | some k => rw [q] at ow; exact hb (List.mem_of_getElem? ow)
      · obtain ⟨i, k, l0, xs, _, g2, _, g4⟩ := inr hm
        rcases (R.ns i l0 b xs g2 g4).1.ow with w | w
        · rw [e] at w; cases w
        · obtain ⟨_, _, _, w⟩ := w; exact hb w
    · cases e : F b with
      | none =>
        rcases P.nw b h1 e with z | z
        · exact .inl (R.h0 z)
        · exact .inr z
      | some u =>
        rcases R.nw b (by rw [e]; simp) h2 with z | ⟨us, z⟩
        · exact .inl z
        · exact .inr ⟨us, P.ff _ _ z⟩
    · by_cases hm : a ∈ ios
      · exact P.hx a hm
      · cases e : H a with
        | none => exact absurd e (R.ih a ha).1
        | some u => rw [P.fr a u e hm]; simp
    · rcases slot e with ⟨hj, q⟩ | ⟨k, m, l0, a, o, q1, rfl, q3, q4, q5, q6, q7, q8, q9, _⟩
      · have z := R.sl j l q
        cases hl0 : l.own with
        | true =>
          rw [own_slot hl0] at z ⊢
          obtain ⟨b, eb, z⟩ := z
          obtain ⟨nf, ow, ob, eo, ok⟩ := z
          refine ⟨b, eb, ?_, ow, ob, P.fr b ob eo (keep2 hj q hl0 eb), ok.mono P.ff⟩
          cases w : F' b with
          | none => rfl
          | some u =>
            rcases P.nw b (by rw [w]; simp) nf with this | ⟨us, this⟩
            · rw [eo] at this; cases this
            · have this := P.fh _ _ this
              rw [P.fr b ob eo (keep2 hj q hl0 eb)] at this
              cases this
              cases l <;> exact False.elim ok
        | false =>
          rcases not_own hl0 with ⟨x, rfl⟩ | ⟨w, rfl⟩
          · obtain ⟨w, ew, d⟩ := z; exact ⟨w, ew, d.mono P.ff⟩
          · obtain ⟨w, ew, d⟩ := z; exact ⟨w, ew, d.mono P.ff⟩
      · rw [own_slot (by rw [Lc.retag_own]; exact q9.own)]
        obtain ⟨b, eb, z⟩ := R.at_ q3 q4
        rw [q5] at eb
        have : a = b := by simpa using eb
        subst this
        exact ⟨a, q5, q7, by rw [Lc.retag_tag _ _ q9.own]; exact z.ow, o, q8, q9.retag _⟩
    · obtain ⟨l0, p1, p2⟩ := old e1 h1
      obtain ⟨m0, p3, p4⟩ := old e2 h2
      exact R.ds i j l0 m0 w p1 p3 p2 p4 e3 e4
    · have own1 : ∀ {j : Nat} {m : Lc}, (putO ρ ρ is outs)[j]? = some (some m) → m.own = true → ∃ l0, ρ[j]? = some (some l0) ∧ l0.own = true := old
      rcases slot e with ⟨hi, q⟩ | ⟨k, m, l0, a, o, q1, rfl, q3, q4, q5, q6, q7, q8, q9, q10⟩
      · obtain ⟨⟨z1, z2, vs, z3, z4⟩, w⟩ := R.ns i l b xs q hb
        have nb : b ∉ ios := fun hm => by
          rw [eios] at hm
          rcases List.mem_append.mp hm with hm | hm
          · obtain ⟨l2, j2, g1, g2, g3, _⟩ := ioA hm
            exact (w j2 l2 g1).1 g2 g3
          · obtain ⟨i2, k2, l2, xs2, g1, g2, g3, g4⟩ := inr hm
            have := (w i2 l2 g2).2 xs2 g4
            exact hi (by rw [← this]; exact List.mem_of_getElem? g1)
        have hb' := P.fr b _ z3 nb
        refine ⟨⟨?_, z2, vs, hb', z4.mono P.ff⟩, fun j m2 e2 => ?_⟩
        · cases w2 : F' b with
          | none => rfl
          | some u =>
            rcases P.nw b (by rw [w2]; simp) z1 with this | ⟨us, this⟩
            · rw [z3] at this; cases this
            · have this := P.fh _ _ this
              rw [hb'] at this; cases this
        · rcases slot e2 with ⟨_, q2⟩ | ⟨k2, m2, l2, a2, o2, p1, rfl, p3, p4, p5, p6, p7, p8, p9, p10⟩
          · exact w j m2 q2
          · refine ⟨fun _ => (w j l2 p3).1 p4, fun ys hy => ?_⟩
            rw [Lc.retag_fp] at hy
            rcases (P.on k2 m2 b ys p10 hy).1.2.1 with g | g
            · rw [z3] at g; cases g
            · obtain ⟨i3, l3, xs3, g1, g2, _, g4⟩ := hnio _ _ g
              rw [p1] at g1
              have : j = i3 := by simpa using g1
              subst this
              exact (w j l3 g2).2 xs3 g4
      · rw [Lc.retag_fp] at hb
        obtain ⟨⟨f1, f2, f3⟩, f5, f6⟩ := P.on k m b xs q10 hb
        have src : H b = none ∨ ∃ xs3, (b, xs3) ∈ l0.fp := by
          rcases f2 with f2 | f2
          · exact .inl f2
          · obtain ⟨i3, l3, xs3, g1, g2, _, g4⟩ := hnio _ _ f2
            rw [q1] at g1
            have : i = i3 := by simpa using g1
            subst this
            rw [q3] at g2
            have : l0 = l3 := by simpa using g2
            subst this
            exact .inr ⟨xs3, g4⟩
        refine ⟨⟨f1, ?_, f3⟩, fun j m2 e2 => ?_⟩
        · rw [Lc.retag_tag _ _ q9.own]
          rcases src with g | ⟨xs3, g⟩
          · exact .inl (R.h0 g)
          · exact (R.ns i l0 b xs3 q3 g).1.ow
        · rcases slot e2 with ⟨_, q2⟩ | ⟨k2, m2, l2, a2, o2, p1, rfl, p3, p4, p5, p6, p7, p8, p9, p10⟩
          · rcases src with g | ⟨xs3, g⟩
            · exact ⟨R.noS_free g j m2 q2, fun ys hy => absurd hy (R.noN_free g j m2 ys q2)⟩
            · exact (R.ns i l0 b xs3 q3 g).2 j m2 q2
          · refine ⟨fun _ z => ?_, fun ys hy => ?_⟩
            · rw [p5] at z
              have : a2 = b := by simpa using z
              have hk2 := (List.getElem?_eq_some_iff.mp p6).1
              refine f5 k2 (by omega) ?_
              rw [eios, List.getElem?_append_left hk2, p6, this]
            · rw [Lc.retag_fp] at hy
              have := f6 k2 m2 ys p10 hy
              subst this
              rw [q1] at p1
              simpa using p1.symm
  refine ⟨R', ?_⟩
  have own : r.own = true → RsOk K G F' H' (putO ρ ρ is outs) σ r v := fun ho => by
    have z : ∃ a o, v = .ref a ∧ H a = none ∧ F' a = none ∧ H' a = some o ∧ HoOk K F' r o ∧ r.tag = none := by
      have := P.rs
      cases r <;> first | (simp [Lc.own] at ho; done) | exact this
    obtain ⟨a, o, e1, e2, e3, e4, e5, e6⟩ := z
    rw [RsOk.ref_own ho]
    have nos : ∀ {b : Addr}, H b = none → NoS (putO ρ ρ is outs) σ b := fun {b} g j m e hm => by
      obtain ⟨l0, p1, p2⟩ := old e hm
      exact R.noS_free g j l0 p1 p2
    have non : ∀ {b : Addr}, H b = none → (∀ (k : Nat) (m : Lc) (ys : List PD), outs[k]? = some m → (b, ys) ∉ m.fp) → NoN (putO ρ ρ is outs) b := fun {b} g g2 j m ys e hy => by
      rcases slot e with ⟨_, q⟩ | ⟨k, m, l0, a, o, q1, rfl, q3, q4, q5, q6, q7, q8, q9, q10⟩
      · exact R.noN_free g j m ys q hy
      · rw [Lc.retag_fp] at hy
        exact g2 k m ys q10 hy
    refine ⟨a, e1, e6, ⟨e3, by rw [e6]; exact R.h0 e2, o, e4, e5⟩, ⟨nos e2, non e2 (P.ra a ho e1), fun b xs hb => ?_⟩⟩
    obtain ⟨⟨f1, f2, f3⟩, f4, f5⟩ := P.rn b xs hb
    exact ⟨⟨f1, .inl (R.h0 f2), f3⟩, by rw [← e1]; exact f4, nos f2, non f2 f5⟩
  cases r with
  | d x => exact P.rs
  | sc u => exact P.rs
  | _ => exact own rfl
variable {k : Nat} {f : Addr} {fd : FuncData} {ps : List Str} {n : Str} {p : Pos} {tt : TAd} {S : FSpec}
theorem callIo [Pn] {ρ1 : En} {F1 H1 : Hp} {as : List AV} {vs : List V} {args : List Lc} {is : List Nat} (R1 : Rel K G ρ1 F1 σ H1) (av : AvA K F1 σ as vs) (ea : argsAt ρ1 as 0 = some (args, is)) (hn : is.Nodup) :
    ∃ ios, ArgsOk K F1 H1 ios args vs ∧ IoOk H1 ios is.length args ∧ ∀ {r : Lc} {outs : List Lc} {v : V} {F' H' : Hp}, Post K F1 H1 ios is.length (nioOf args) r outs v F' H' → Rel K G (putO ρ1 ρ1 is outs) F' σ H' ∧ RsOk K G F' H' (putO ρ1 ρ1 is outs) σ r v := by
  obtain ⟨post, p1, p2, p3, p4⟩ := argsAt_ok R1 av ea [] rfl
  obtain ⟨rest, rn, rm⟩ := dedup ((nioOf args).map (·.2))
  have rk : ∀ b, b ∈ rest → ∃ k, (k, b) ∈ nioOf args := fun b hb => by
    obtain ⟨q, hq, e⟩ := List.mem_map.mp ((rm b).mp hb)
    exact ⟨q.1, by rw [← e]; exact hq⟩
  have src := fun (k : Nat) (b : Addr) (z : (k, b) ∈ nioOf args) => argsAt_src R1 ea z
  have pa : ∀ a ∈ post, ∃ (j : Nat) (l : Lc), ρ1[j]? = some (some l) ∧ l.own = true ∧ σ[j]? = some (some (.ref a)) := fun a ha => by
    obtain ⟨j, hj, ej⟩ := List.getElem_of_mem ha
    obtain ⟨b, l, z1, z2, z3, z4⟩ := p2 j is[j] (List.getElem?_eq_getElem (by omega))
    rw [List.getElem?_eq_getElem hj, ej] at z1
    have : a = b := by simpa using z1
    subst this
    exact ⟨_, l, z3, z4, z2⟩
  have io : IoOk H1 (post ++ rest) is.length args := by
    refine ⟨List.nodup_append.mpr ⟨nodup_post R1 p1 p2 hn, rn, fun a ha b hb e => ?_⟩, fun a ha => ?_, by rw [p4, List.range_eq_range'], by rw [List.length_append]; omega, fun k b hb => ?_, fun i j l m b xs ys e1 e2 h1 h2 => ?_⟩
    · subst e
      obtain ⟨j, l, g1, g2, g3⟩ := pa a ha
      obtain ⟨k, hk⟩ := rk a hb
      obtain ⟨i, l0, xs, _, q2, _, q4⟩ := src k a hk
      exact ((R1.ns i l0 a xs q2 q4).2 j l g1).1 g2 g3
    · rcases List.mem_append.mp ha with ha | ha
      · obtain ⟨j, l, g1, g2, g3⟩ := pa a ha
        obtain ⟨b, eb, _, _, ob, eo, _⟩ := R1.at_ g1 g2
        rw [g3] at eb
        have : a = b := by simpa using eb
        subst this
        rw [eo]; simp
      · obtain ⟨k, hk⟩ := rk a ha
        obtain ⟨i, l0, xs, _, q2, _, q4⟩ := src k a hk
        obtain ⟨vs, e, _⟩ := (R1.ns i l0 a xs q2 q4).1.ob
        rw [e]; simp
    · rw [← p1, List.drop_left]
      exact (rm b).mpr (List.mem_map.mpr ⟨(k, b), hb, rfl⟩)
    · obtain ⟨j1, i1, l1, q1, q2, q3, q4, q5⟩ := argsAt_nio R1 ea e1 (by intro z; rw [z] at h1; cases h1)
      obtain ⟨j2, i2, l2, g1, g2, g3, g4, g5⟩ := argsAt_nio R1 ea e2 (by intro z; rw [z] at h2; cases h2)
      have h1' : (b, xs) ∈ l1.fp := by rw [q4, Lc.retag_fp] at h1; exact h1
      have h2' : (b, ys) ∈ l2.fp := by rw [g4, Lc.retag_fp] at h2; exact h2
      have e3 : i2 = i1 := ((R1.ns i1 l1 b xs q2 h1').2 i2 l2 g2).2 ys h2'
      subst e3
      obtain ⟨hj1, ej1⟩ := List.getElem?_eq_some_iff.mp q1
      obtain ⟨hj2, ej2⟩ := List.getElem?_eq_some_iff.mp g1
      have e4 : j1 = j2 := (List.getElem_inj hn).mp (ej1.trans ej2.symm)
      subst e4
      exact tags_inj (by rw [p4]; exact List.nodup_range') e1 e2 q5 g5
  exact ⟨post ++ rest, p3.more, io, fun P => R1.call p1 hn p2 ⟨rest, rfl, rk⟩ src P⟩
theorem tCall_of [Pn] {m : Nat} {Q : VK} (h : liftF K (fCall S tt) σ H Q) : tCall (liftC K S) [] E0 (liftA K m tt) σ H Q := by
  obtain ⟨G, ρ, F, Q', R, q, c⟩ := h
  refine ⟨G, ρ, F, _, R, q, fun as ρ1 vs H1 F1 h1 hl R1 s1 av => ?_⟩
  split at h1
  · rename_i args is ea
    obtain ⟨hn, h1⟩ := h1
    have hn := nodup_of hn
    obtain ⟨ios, p3, io, back⟩ := callIo R1 av ea hn
    rw [List.append_nil]
    refine ⟨args, F1, ios, is.length, _, R1.fh, p3, io, h1, fun r outs v F' H' q' P => ?_⟩
    obtain ⟨R2, r2⟩ := back P
    have q2 := q'
    change putF _ _ _ _ _ at q2
    rw [putF_eq] at q2
    exact c _ _ _ _ _ q2 R2 (s1.trans P.ff) r2
  · exact False.elim h1
def outsAt (ρ : En) : List Nat → Nat → Option (List Lc)
  | [], _ => some []
  | i :: is, k => match ρ[i]? with
    | some (some l) => if (l.own && l.tag == some k) = true then (outsAt ρ is (k + 1)).map (l :: ·) else none
    | _ => none
def ioSlots : List Lc → Nat → List Nat
  | [], _ => []
  | l :: r, i => if l.tag.isSome = true then i :: ioSlots r (i + 1) else ioSlots r (i + 1)
def retOk (args : List Lc) (Q : Lc → List Lc → Prop) (r : Lc) (ρ : En) : Prop := match outsAt ρ (ioSlots args 0) 0 with
  | some outs => (match r with
    | .d x => Q (.d x) outs
    | l => Q l outs ∨ (l.fz = true ∧ Q (.d l.pd) outs))
  | none => False
def endsOf (args : List Lc) (Q : Lc → List Lc → Prop) : DE := { nx := retOk args Q (.d .none), rt := retOk args Q }
def rho0 (N : List Str) (args : List Lc) : En := args.map some ++ List.replicate (N.length - args.length) none
theorem outsAt_ok [Pn] (R : Rel K G ρ F σ H) : ∀ {is : List Nat} {k : Nat} {outs : List Lc}, outsAt ρ is k = some outs → outs.length = is.length ∧ ∀ (j : Nat) (l : Lc), outs[j]? = some l → ∃ a o, G.io[k + j]? = some a ∧ F a = none ∧ H a = some o ∧ HoOk K F l o ∧ l.tag = some (k + j)
  | [], k, outs, e => by
    have e : some ([] : List Lc) = some outs := e
    cases e
    exact ⟨rfl, fun j l z => by simp at z⟩
  | i :: is, k, outs, e => by
    unfold outsAt at e
    split at e
    · rename_i l er
      split at e
      · rename_i hz
        rw [Bool.and_eq_true] at hz
        have ht : l.tag = some k := by simpa using hz.2
        cases q : outsAt ρ is (k + 1) with
        | none => rw [q] at e; cases e
        | some os =>
          rw [q] at e; cases e
          obtain ⟨h1, h2⟩ := outsAt_ok R q
          refine ⟨by rw [List.length_cons, List.length_cons, h1], fun j m em => ?_⟩
          cases j with
          | zero =>
            simp at em; subst em
            obtain ⟨a, es, nf, ow, o, eo, ok⟩ := R.at_ er hz.1
            rw [ht] at ow
            exact ⟨a, o, ow, nf, eo, ok, ht⟩
          | succ j =>
            obtain ⟨a, o, z⟩ := h2 j m (by simpa using em)
            have ek : k + (j + 1) = k + 1 + j := by omega
            rw [ek]; exact ⟨a, o, z⟩
      · cases e
    · cases e
theorem ioSlots_length : ∀ (args : List Lc) (i : Nat), (ioSlots args i).length = (tags args).length
  | [], _ => rfl
  | l :: r, i => by
    unfold ioSlots tags
    rw [List.filterMap_cons]
    cases q : l.tag with
    | none => simp only [Option.isSome, Bool.false_eq_true, if_false]; exact ioSlots_length r (i + 1)
    | some k => simp only [Option.isSome, if_true]; rw [List.length_cons, List.length_cons]; exact congrArg (· + 1) (ioSlots_length r (i + 1))
theorem ArgsOk.get {ios : List Addr} : ∀ {ls : List Lc} {vs : List V}, ArgsOk K F H ios ls vs → ∀ {i : Nat} {l : Lc}, ls[i]? = some l → ∃ v, vs[i]? = some v ∧ ArgOk K F H ios l v
  | _, _, .nil, i, l, e => by simp at e
  | _, _, .cons a t, i, l, e => by
    cases i with
    | zero => simp at e; subst e; exact ⟨_, rfl, a⟩
    | succ i => obtain ⟨v, h1, h2⟩ := ArgsOk.get t (i := i) (by simpa using e); exact ⟨v, by simpa using h1, h2⟩
theorem argOk_own {ios : List Addr} {l : Lc} (ho : l.own = true) : ArgOk K F H ios l v ↔ ∃ a k, v = .ref a ∧ l.tag = some k ∧ ios[k]? = some a ∧ F a = none ∧ (∃ o, H a = some o ∧ HoOk K F l o) ∧ ∀ b xs, (b, xs) ∈ l.fp → F b = none ∧ ∃ vs, H b = some (.lst vs) ∧ DfA K F vs xs := by
  cases l <;> first | exact Iff.rfl | (simp [Lc.own] at ho)
theorem Rel.start [Pn] {N : List Str} {ios : List Addr} {n : Nat} {args : List Lc} {vs : List V} (ok : Pn.P ⟨H, F, ios, nioOf args⟩) (s : Same F H) (a : ArgsOk K F H ios args vs) (io : IoOk H ios n args) : Rel K ⟨H, F, ios, nioOf args⟩ (rho0 N args) F (L2.start N vs) H := by
  have hn := io.nd
  have hH := io.ex
  have ht := io.tg
  have hl := a.length
  have get : ∀ {i : Nat} {l : Lc}, (rho0 N args)[i]? = some (some l) → args[i]? = some l := fun {i l} e => by
    unfold rho0 at e
    by_cases hi : i < args.length
    · rw [List.getElem?_append_left (by simpa using hi), List.getElem?_map] at e
      cases q : args[i]? with
      | none => rw [q] at e; simp at e
      | some m => rw [q] at e; simpa using e
    · rw [List.getElem?_append_right (by simpa using Nat.le_of_not_lt hi)] at e
      have := List.mem_of_getElem? e
      rw [List.mem_replicate] at this
      cases this.2
  have getv : ∀ {i : Nat} {v : V}, vs[i]? = some v → (L2.start N vs)[i]? = some (some v) := fun {i v} e => by
    unfold L2.start
    have hi := (List.getElem?_eq_some_iff.mp e).1
    rw [List.getElem?_append_left (by simpa using hi), List.getElem?_map, e]; rfl
  refine ⟨s, Same.refl _, fun b o e _ => e, fun b h1 h2 => absurd h2 h1, fun a ha => ⟨hH a ha, hH a ha⟩, ?_, fun i l e => ?_, fun i j l m v e1 e2 h1 h2 e3 e4 => ?_, ok, fun i l b xs e hb => ?_⟩
  · unfold L2.start rho0
    simp only [List.length_append, List.length_map, List.length_replicate]; rw [hl]
  · obtain ⟨v, ev, av⟩ := a.get (get e)
    rw [getv ev]
    cases ho : l.own with
    | true =>
      rw [own_slot ho]
      rw [argOk_own ho] at av
      obtain ⟨b, k, e1, e2, e3, e4, ⟨o, e5, e6⟩, _⟩ := av
      exact ⟨b, by rw [e1], e4, by rw [e2]; exact e3, o, e5, e6⟩
    | false =>
      rcases not_own ho with ⟨x, rfl⟩ | ⟨w, rfl⟩
      · exact ⟨v, rfl, av⟩
      · exact ⟨v, rfl, av⟩
  · obtain ⟨v1, ev1, av1⟩ := a.get (get e1)
    obtain ⟨v2, ev2, av2⟩ := a.get (get e2)
    rw [argOk_own h1] at av1
    rw [argOk_own h2] at av2
    obtain ⟨b, k, a1, a2, a3, _⟩ := av1
    obtain ⟨b', k', c1, c2, c3, _⟩ := av2
    rw [getv ev1] at e3
    rw [getv ev2] at e4
    have f1 : v1 = v := by simpa using e3
    have f2 : v2 = v := by simpa using e4
    have bb : b = b' := by rw [f1, ← f2, c1] at a1; exact (V.ref.inj a1).symm
    subst bb
    obtain ⟨hk, ek⟩ := List.getElem?_eq_some_iff.mp a3
    obtain ⟨hk', ek'⟩ := List.getElem?_eq_some_iff.mp c3
    have kk : k = k' := (List.getElem_inj hn).mp (ek.trans ek'.symm)
    subst kk
    exact tags_inj (by rw [ht]; exact List.nodup_range) (get e1) (get e2) a2 c2
  · have ho : l.own = true := by
      cases q : l.own with
      | true => rfl
      | false => rw [Lc.fp_own q] at hb; cases hb
    obtain ⟨v, ev, av⟩ := a.get (get e)
    rw [argOk_own ho] at av
    obtain ⟨c, k, e1, e2, e3, e4, _, w⟩ := av
    obtain ⟨w1, w2⟩ := w b xs hb
    have hin := nioOf_in (get e) e2 hb
    have hdr := io.nx k b hin
    refine ⟨⟨w1, .inr ⟨k, e2, hin, List.mem_of_mem_drop hdr⟩, w2⟩, fun j m em => ⟨fun hm z => ?_, fun ys hy => (io.dj i j l m b xs ys (get e) (get em) hb hy).symm⟩⟩
    obtain ⟨v2, ev2, av2⟩ := a.get (get em)
    rw [argOk_own hm] at av2
    obtain ⟨c2, k2, f1, f2, f3, _⟩ := av2
    rw [getv ev2, f1] at z
    have : c2 = b := by simpa using z
    refine drop_ne hn hdr ?_ f3 this
    have : k2 ∈ tags args := List.mem_filterMap.mpr ⟨m, List.mem_of_getElem? (get em), f2⟩
    rw [ht] at this
    exact List.mem_range.mp this
theorem nio_ds {xs : List PD} {k : Nat} {b : Addr} (h : (k, b) ∈ nioOf (xs.map Lc.d)) : False := by
  obtain ⟨i, l, ys, e1, _, e3⟩ := nioOf_mem h
  rw [List.getElem?_map] at e1
  obtain ⟨x, _, rfl⟩ := Option.map_eq_some_iff.mp e1
  cases e3
theorem tags_ds (xs : List PD) : tags (xs.map Lc.d) = [] := by
  induction xs with
  | nil => rfl
  | cons x r ih => exact ih
theorem IoOk.ds (xs : List PD) : IoOk H [] 0 (xs.map Lc.d) := ⟨List.nodup_nil, fun a h => (by cases h), tags_ds xs, Nat.le_refl _, fun k b z => (nio_ds z).elim, fun i j l m b zs ys e1 _ h1 _ => by
  rw [List.getElem?_map] at e1
  obtain ⟨x, _, rfl⟩ := Option.map_eq_some_iff.mp e1
  cases h1⟩
theorem outsAt_slot {ρ : En} : ∀ {is : List Nat} {k : Nat} {outs : List Lc}, outsAt ρ is k = some outs → ∀ {j : Nat} {l : Lc}, outs[j]? = some l → ∃ i, is[j]? = some i ∧ ρ[i]? = some (some l) ∧ l.own = true ∧ l.tag = some (k + j)
  | [], k, outs, e, j, l, z => by
    have e : some ([] : List Lc) = some outs := e
    cases e
    simp at z
  | i :: is, k, outs, e, j, l, z => by
    unfold outsAt at e
    split at e
    · rename_i l0 er
      split at e
      · rename_i hz
        rw [Bool.and_eq_true] at hz
        have ht : l0.tag = some k := by simpa using hz.2
        cases q : outsAt ρ is (k + 1) with
        | none => rw [q] at e; cases e
        | some os =>
          rw [q] at e; cases e
          cases j with
          | zero => simp at z; subst z; exact ⟨i, rfl, er, hz.1, ht⟩
          | succ j =>
            obtain ⟨i', g1, g2, g3, g4⟩ := outsAt_slot q (j := j) (by simpa using z)
            exact ⟨i', by simpa using g1, g2, g3, by rw [g4]; congr 1; omega⟩
      · cases e
    · cases e
theorem end_post [Pn] {ρ : En} {σ : L2.St} {F0 H0 : Hp} {ios : List Addr} {n : Nat} {args : List Lc} {outs : List Lc} {l : Lc} {v : V} (ht : tags args = List.range n) (eo : outsAt ρ (ioSlots args 0) 0 = some outs) (R2 : Rel K ⟨H0, F0, ios, nioOf args⟩ ρ F σ H)
    (r2 : RsOk K ⟨H0, F0, ios, nioOf args⟩ F H ρ σ l v) : Post K F0 H0 ios n (nioOf args) l outs v F H := by
  obtain ⟨o1, o3⟩ := outsAt_ok R2 eo
  have ol : outs.length = n := by rw [o1, ioSlots_length, ht, List.length_range]
  refine ⟨R2.ff, R2.fh, R2.fr, R2.nw, ol, fun k m em => ?_, fun a ha => (R2.ih a ha).1, fun k m b xs em hb => ?_, ?_, fun b xs hb => ?_, fun a ho ev k m ys em hy => ?_⟩
  · obtain ⟨a, o, z⟩ := o3 k m em
    rw [Nat.zero_add] at z
    exact ⟨a, o, z⟩
  · obtain ⟨i, _, g2, g3, g4⟩ := outsAt_slot eo em
    rw [Nat.zero_add] at g4
    obtain ⟨⟨z1, z2, z3⟩, w⟩ := R2.ns i m b xs g2 hb
    refine ⟨⟨z1, ?_, z3⟩, fun k' hk' e => ?_, fun k' m' ys em' hy => ?_⟩
    · rcases z2 with z2 | ⟨k2, e2, h2, _⟩
      · exact .inl z2
      · rw [g4] at e2
        cases e2
        exact .inr h2
    · obtain ⟨m', em'⟩ : ∃ m', outs[k']? = some m' := ⟨outs[k']'(by omega), List.getElem?_eq_getElem _⟩
      obtain ⟨i', _, g2', g3', g4'⟩ := outsAt_slot eo em'
      rw [Nat.zero_add] at g4'
      obtain ⟨a, es, at_⟩ := R2.at_ g2' g3'
      have ow := at_.ow
      rw [g4'] at ow
      have ow : ios[k']? = some a := ow
      rw [e] at ow
      have : b = a := by simpa using ow
      subst this
      exact (w i' m' g2').1 g3' es
    · obtain ⟨i', _, g2', g3', g4'⟩ := outsAt_slot eo em'
      rw [Nat.zero_add] at g4'
      have := (w i' m' g2').2 ys hy
      subst this
      rw [g2] at g2'
      have : m = m' := by simpa using g2'
      subst this
      rw [g4] at g4'
      exact (Option.some.inj g4').symm
  · cases l with
    | d x => exact r2
    | sc u => exact r2
    | ls p xs => obtain ⟨a, e1, e2, ⟨nf, ow, o, eo, ok⟩, _⟩ := r2; rw [e2] at ow; exact ⟨a, o, e1, ow, nf, eo, ok, e2⟩
    | dk p xs => obtain ⟨a, e1, e2, ⟨nf, ow, o, eo, ok⟩, _⟩ := r2; rw [e2] at ow; exact ⟨a, o, e1, ow, nf, eo, ok, e2⟩
    | dt p xs => obtain ⟨a, e1, e2, ⟨nf, ow, o, eo, ok⟩, _⟩ := r2; rw [e2] at ow; exact ⟨a, o, e1, ow, nf, eo, ok, e2⟩
    | ob p C xs => obtain ⟨a, e1, e2, ⟨nf, ow, o, eo, ok⟩, _⟩ := r2; rw [e2] at ow; exact ⟨a, o, e1, ow, nf, eo, ok, e2⟩
    | nb p C xs ns => obtain ⟨a, e1, e2, ⟨nf, ow, o, eo, ok⟩, _⟩ := r2; rw [e2] at ow; exact ⟨a, o, e1, ow, nf, eo, ok, e2⟩
    | ln p xs => obtain ⟨a, e1, e2, ⟨nf, ow, o, eo, ok⟩, _⟩ := r2; rw [e2] at ow; exact ⟨a, o, e1, ow, nf, eo, ok, e2⟩
  · have ho : l.own = true := by
      cases q : l.own with
      | true => rfl
      | false => rw [Lc.fp_own q] at hb; cases hb
    rw [RsOk.ref_own ho] at r2
    obtain ⟨a, rfl, e2, _, f⟩ := r2
    obtain ⟨⟨z1, z2, z3⟩, z4, z5, z6⟩ := f.ns b xs hb
    refine ⟨⟨z1, ?_, z3⟩, z4, fun k m ys em => ?_⟩
    · rcases z2 with z2 | ⟨k2, e3, _⟩
      · exact z2
      · rw [e2] at e3; cases e3
    · obtain ⟨i, _, g2, _⟩ := outsAt_slot eo em
      exact z6 i m ys g2
  · rw [RsOk.ref_own ho] at r2
    obtain ⟨a', ea, _, _, f⟩ := r2
    rw [ev] at ea
    cases ea
    obtain ⟨i, _, g2, _⟩ := outsAt_slot eo em
    exact f.hn i m ys g2 hy
theorem end_fin [Pn] {Q : VK} {Qd : Lc → List Lc → Prop} {ρ : En} {σ : L2.St} {F0 H0 : Hp} {ios : List Addr} {n : Nat} {args : List Lc} {l : Lc} {v : V} (ht : tags args = List.range n) (c : ∀ r outs v F' H', Qd r outs → Post K F0 H0 ios n (nioOf args) r outs v F' H' → Q v H')
    (hq : retOk args Qd l ρ) (R' : Rel K ⟨H0, F0, ios, nioOf args⟩ ρ F σ H) (r : RsOk K ⟨H0, F0, ios, nioOf args⟩ F H ρ σ l v) : Q v H := by
  unfold retOk at hq
  split at hq
  · rename_i outs eo
    have frz : (Qd l outs ∨ (l.fz = true ∧ Qd (.d l.pd) outs)) → Q v H := fun hq => by
      rcases hq with hq | ⟨hz, hq⟩
      · exact c _ _ v F H hq (end_post ht eo R' r)
      · obtain ⟨F2, R2, _, d⟩ := r.freeze R' hz
        exact c _ _ v F2 H hq (end_post (l := .d l.pd) ht eo R2 d)
    split at hq
    · exact c _ _ v F H hq (end_post ht eo R' r)
    · exact frz hq
  · exact False.elim hq
end
end DL
namespace DL
open PySem L2 PyProof.Rows
structure FnG (P : Program) (w : World) (K : PySem.W.Frag) (mg : Str → Option Value) (base : Heap) (CX : CXT) (k : Nat) (f : Addr) (fd : FuncData) (ps : List Str) (sp : Sp) : Prop where
  len : ∀ vs H Q E, sp vs H Q E → vs.length = ps.length
  run : ∀ (A : Around) (outer : List PySem.Env) (s : Shared) (H : Hp) (args : Args) (us : List Value) (vs : List V) (Q : VK) (E : XK), Room k A → A.guards = some [] → Env0 P w K mg base A outer s H → BindsTo s fd args (ps.zip us) → Vals vs us → sp vs H Q E →
    codeAny (model P w) A (.call (.ref f) args) (CR CX outer P w H s Q E) s
section
variable {P : Program} {w : World} {K : PySem.W.Frag} {mg : Str → Option Value} {base : Heap} {CX : CXT} {j k : Nat} {f : Addr} {fd : FuncData} {ps : List Str} {sp sp' : Sp} {X : Cx} {E : XK} {dvs : List V} {ds : List Value} {n : Str} {p pos : Pos} {e : Expr} {es : List Expr} {t : TA} {S : FSpec} {tt : TAd} {F H : Hp} {st : Stmt} {ρ : En}
theorem FnG.mono (h : FnG P w K mg base CX j f fd ps sp) (hk : j ≤ k) : FnG P w K mg base CX k f fd ps sp := ⟨h.len, fun A outer s H args us vs Q E hr => h.run A outer s H args us vs Q E (hr.mono hk)⟩
theorem runG {pins : List (Addr × Obj)} {σ : L2.St} {s : Shared} {Q : VK} {us : List Value} {vs : List V} (G : FnG X.prog X.w X.K X.mg X.base CX k f fd ps sp) (hr : Room k X.A) (hgd : X.A.guards = some []) (hb : Binds X.K fd ps ds) (hd : Vals dvs ds) (hx : Passes CX X E)
    (I : Inv X pins σ H s) (r : Vals vs us) (h : sp (vs ++ dvs) H Q E) : wpAny (model X.prog X.w) X.A (call (.ref f) us) (EP X pins σ Q) X.xe s := by
  have rr : Vals (vs ++ dvs) (us ++ ds) := r.append hd
  have ll : (us ++ ds).length = ps.length := rr.length.symm.trans (G.len _ _ _ _ h)
  have run := G.run X.A X.stack s H ⟨us, []⟩ (us ++ ds) (vs ++ dvs) Q E hr hgd I.env0 (hb s us I.kIn ll) rr h
  refine wpAny_call (codeAny_mono run fun res s' hq => ?_)
  rcases res with e' | fl
  · exact hx pins σ H s e' s' I hq
  · cases fl <;> first | exact I.after hq | exact False.elim hq
theorem peG (G : FnG X.prog X.w X.K X.mg X.base CX k f fd ps sp) (hr : Room k X.A) (hgd : X.A.guards = some []) (hg : Gl X n) (hm : X.mg n = some (.ref f)) (hk : PySem.W.keepIn X.K (.ref f) = true) (hb : Binds X.K fd ps ds) (hd : Vals dvs ds) (hx : Passes CX X E)
    (ha : PA X (e :: es) t) (hdb : (n == ("__debug__" : Str)) = false := by decide) (he : starEach (e :: es) X.env = (false, eval e X.env) :: starEach es X.env := by rfl) (hpl : (backTo pos (starEach es X.env)).any (·.1) = false := by rfl) :
    PE X (.Call (.Name n p) (e :: es) [] pos) (tCall sp dvs E t) :=
  ⟨fun pins s σ H Q I h => wpAny_Call_Name_kw (ld_glob I hg hm (PySem.W.callWith_K (h₀ := X.base) I.ok.mod.kin hk (thn (ha.run pos pins s σ H _ I h) fun us s1 ⟨vs, H1, I1, r, q⟩ => ⟨I1.kIn, runG G hr hgd hb hd hx I1 r q⟩) he hpl) hdb)⟩
theorem LF.call [Pn] (G : FnG X.prog X.w X.K X.mg X.base CX0 k f fd ps (liftC X.K S)) (hr : Room k X.A) (hgd : X.A.guards = some []) (hg : Gl X n) (hm : X.mg n = some (.ref f)) (hk : PySem.W.keepIn X.K (.ref f) = true) (hb : Binds X.K fd ps []) (ha : LA X (e :: es) tt)
    (hdb : (n == ("__debug__" : Str)) = false := by decide) (he : starEach (e :: es) X.env = (false, eval e X.env) :: starEach es X.env := by rfl) (hpl : (backTo pos (starEach es X.env)).any (·.1) = false := by rfl) :
    LF X (.Call (.Name n p) (e :: es) [] pos) (fCall S tt) := ⟨peImp (peG G hr hgd hg hm hk hb .nil pass0 ha.p hdb he hpl) fun σ H Q h => tCall_of h⟩
theorem fnG {name qual : Str} {params : Arguments} {body : List Stmt} {scope : Scope} {dV kV doc pm cdv ct oc : Value} {an od : Option Addr} {osl : Array (Option Value)} {N : List Str}
    (lk : K.lookup f = some ⟨oc, od, .func (PySem.W.fnOf name qual params body scope dV kV doc pm an cdv ct), osl⟩) (hcd : PySem.W.codeIn K cdv qual = true) (S : FnScope N ps scope) (len : ∀ vs H Q E, sp vs H Q E → vs.length = ps.length)
    (hbody : ∀ (A : Around) (outer : List PySem.Env) (s : Shared) (H : Hp) (vs : List V) (Q : VK) (E : XK), Room k (A.deeper (envOfC qual scope s.heap.objs.size f cdv)) → (A.deeper (envOfC qual scope s.heap.objs.size f cdv)).guards = some [] → sp vs H Q E →
      ∃ t, PSs (cxOf CX P w K mg base N qual scope f cdv A outer s H E) body t ∧ t { nx := fun _ H' => Q .non H', rt := Q } (start N vs) H) :
    FnG P w K mg base CX (k + 1) f (PySem.W.fnOf name qual params body scope dV kV doc pm an cdv ct) ps sp := by
  refine ⟨len, fun A outer s H args us vs Q E room hgd env0 bind vals want => ?_⟩
  have hl := len _ _ _ _ want
  have kin : K.In s.heap := env0.mod.kin.keeps fun b o q => (env0.bs b o q).1
  have nolim : s.heap.NoLimit := env0.mod.nolimit.keeps fun b o q => (env0.bs b o q).1
  have kinds : ∀ y ∈ ps.zip us, scope.names.lookup y.1 = some .local ∨ (scope.names.lookup y.1 = some .cell ∧ ((cellsFrom (s.heap.objs.size + 1) scope.names []).lookup y.1).isSome = true) := fun ⟨nm, v⟩ hy =>
    (S.par nm (List.of_mem_zip hy).1).elim .inl fun q => .inr ⟨q, PySem.W.cellsFrom_some _ _ _ (.inl q)⟩
  refine codeAny_call_function room.depth (kin _ _ lk) rfl S.co S.gen rfl (PySem.W.codeRec_of kin hcd) (bind _ _ _ _ (wpAny_newFunctionEnv_cells S.kind kinds fun env he s1 x => ?_))
  subst he
  refine ⟨nolim.keeps x.toInCall.keep, codeAny_func ?_⟩
  obtain ⟨t, ht, hq⟩ := hbody A outer s H vs Q E (room.deeper _) hgd want
  have inv : Inv (cxOf CX P w K mg base N qual scope f cdv A outer s H E) [] (start N vs) H s1 := inv_start S room.hd env0 hl vals x
  refine wpAny_mono (ht.run [] s1 (start N vs) H _ inv hq) (fun fl s' hs => ?_) fun _ _ z => z
  cases fl with
  | ret u => obtain ⟨v, σ', H', J, rv, q⟩ := hs; exact ⟨v, H', J.os, J.bare, J.base, J.hok, rv, q⟩
  | next => obtain ⟨σ', H', J, q⟩ := hs; exact ⟨V.non, H', J.os, J.bare, J.base, J.hok, rfl, q⟩
  | brk => obtain ⟨_, _, _, z⟩ := hs; exact False.elim z
  | cont => obtain ⟨_, _, _, z⟩ := hs; exact False.elim z
structure FunX (K : PySem.W.Frag) (x qual : Str) (st : Stmt) (f : Addr) (fd : FuncData) : Prop where
  ex : ∃ (oc : Value) (od : Option Addr) (dV kV doc pm : Value) (an : Option Addr) (cdv ct : Value) (osl : Array (Option Value)),
    fd = PySem.W.fnOf x qual (defArgs st) (defBody st) (defScope st) dV kV doc pm an cdv ct ∧ K.lookup f = some ⟨oc, od, .func fd, osl⟩ ∧ PySem.W.codeIn K cdv qual = true
theorem funX_of {x qual : Str} (Fn : Fun K x qual st f fd) : FunX K x qual st f fd := by
  obtain ⟨oc, od, kV, doc, pm, an, cdv, ct, osl, h⟩ := Fn.ex
  exact ⟨oc, od, .none, kV, doc, pm, an, cdv, ct, osl, h⟩
theorem funG {x qual : Str} {N : List Str} (Fn : FunX K x qual st f fd) (Sc : FnScope N ps (defScope st)) (len : ∀ vs H Q E, sp vs H Q E → vs.length = ps.length)
    (hbody : ∀ (cdv : Value) (A : Around) (outer : List PySem.Env) (s : Shared) (H : Hp) (vs : List V) (Q : VK) (E : XK), Room k (A.deeper (envOfC qual (defScope st) s.heap.objs.size f cdv)) → (A.deeper (envOfC qual (defScope st) s.heap.objs.size f cdv)).guards = some [] → sp vs H Q E →
      ∃ t, PSs (cxOf CX0 P w K mg base N qual (defScope st) f cdv A outer s H E).nox (defBody st) t ∧ t { nx := fun _ H' => Q .non H', rt := Q } (start N vs) H) : FnG P w K mg base CX0 (k + 1) f fd ps sp := by
  obtain ⟨oc, od, dV, kV, doc, pm, an, cdv, ct, osl, rfl, lk, hcd⟩ := Fn.ex
  refine fnG lk hcd Sc len fun A outer s H vs Q E hr hgd hsp => ?_
  obtain ⟨t, h, q⟩ := hbody cdv A outer s H vs Q E hr hgd hsp
  exact ⟨t, h.nox, q⟩
theorem def_okX {x qual : Str} {N : List Str} {ir : TSt} (Fn : FunX K x qual st f fd) (Sc : FnScope N ps (defScope st)) (len : ∀ args Q, S.sp args Q → args.length = ps.length)
    (hb : ∀ [Pn] (cdv : Value) (A : Around) (outer : List PySem.Env) (s : Shared) (H : Hp) (E : XK), Room k (A.deeper (envOfC qual (defScope st) s.heap.objs.size f cdv)) → (A.deeper (envOfC qual (defScope st) s.heap.objs.size f cdv)).guards = some [] → LSs (cxOf CX0 P w K mg base N qual (defScope st) f cdv A outer s H E).nox (defBody st) ir)
    (hsp : ∀ args Q, S.sp args Q → ir (endsOf args Q) (rho0 N args)) : FnG P w K mg base CX0 (k + 1) f fd ps (liftC K S) := by
  refine funG Fn Sc (fun vs H Q E h => ?_) fun cdv A outer s H vs Q E hr hgd h => ?_
  · obtain ⟨args, F, ios, n, Qd, _, a, _, h, _⟩ := h
    rw [← a.length]; exact len args Qd h
  · obtain ⟨args, F, ios, n, Qd, s0, a, io, h, c⟩ := h
    letI : Pn := Pn.any
    refine ⟨_, (hb cdv A outer s H E hr hgd).p, ?_⟩
    have R := Rel.start (N := N) trivial s0 a io
    exact ⟨⟨H, F, ios, nioOf args⟩, rho0 N args, F, endsOf args Qd, R, hsp args Qd h, ⟨fun ρ σ H' F' hq R' s' => end_fin (l := .d .none) (v := .non) io.tg c hq R' (show Df K F' .non .none from .non), fun l ρ v σ H' F' hq R' s' r => end_fin io.tg c hq R' r, fun _ _ _ _ z => False.elim z, fun _ _ _ _ z => False.elim z⟩⟩
theorem def_ok {x qual : Str} {N : List Str} {ir : TSt} (Fn : Fun K x qual st f fd) (Sc : FnScope N ps (defScope st)) (len : ∀ args Q, S.sp args Q → args.length = ps.length)
    (hb : ∀ [Pn] (cdv : Value) (A : Around) (outer : List PySem.Env) (s : Shared) (H : Hp) (E : XK), Room k (A.deeper (envOfC qual (defScope st) s.heap.objs.size f cdv)) → (A.deeper (envOfC qual (defScope st) s.heap.objs.size f cdv)).guards = some [] → LSs (cxOf CX0 P w K mg base N qual (defScope st) f cdv A outer s H E).nox (defBody st) ir)
    (hsp : ∀ args Q, S.sp args Q → ir (endsOf args Q) (rho0 N args)) : FnG P w K mg base CX0 (k + 1) f fd ps (liftC K S) := def_okX (funX_of Fn) Sc len hb hsp
structure Dn (K : PySem.W.Frag) (mg : Str → Option Value) (n : Str) (st : Stmt) (ps : List Str) : Prop where
  ex : ∃ f fd, Fun K n n st f fd ∧ mg n = some (.ref f) ∧ Binds K fd ps []
structure Cal (P : Program) (w : World) (K : PySem.W.Frag) (mg : Str → Option Value) (base : Heap) (k : Nat) (n : Str) (ps : List Str) (S : FSpec) : Prop where
  ex : ∃ f fd, FnG P w K mg base CX0 k f fd ps (liftC K S) ∧ mg n = some (.ref f) ∧ PySem.W.keepIn K (.ref f) = true ∧ Binds K fd ps []
theorem Cal.mono (h : Cal P w K mg base j n ps S) (hk : j ≤ k) : Cal P w K mg base k n ps S := by
  obtain ⟨f, fd, h1, h2⟩ := h.ex
  exact ⟨f, fd, h1.mono hk, h2⟩
theorem LF.cal [Pn] (C : Cal X.prog X.w X.K X.mg X.base k n ps S) (hr : Room k X.A) (hgd : X.A.guards = some []) (hg : Gl X n) (ha : LA X (e :: es) tt)
    (hdb : (n == ("__debug__" : Str)) = false := by decide) (he : starEach (e :: es) X.env = (false, eval e X.env) :: starEach es X.env := by rfl) (hpl : (backTo pos (starEach es X.env)).any (·.1) = false := by rfl) :
    LF X (.Call (.Name n p) (e :: es) [] pos) (fCall S tt) := by
  obtain ⟨f, fd, h1, h2, h3, h4⟩ := C.ex
  exact LF.call h1 hr hgd hg h2 h3 h4 ha hdb he hpl
theorem def_cal {N : List Str} {ir : TSt} (D : Dn K mg n st ps) (Sc : FnScope N ps (defScope st)) (len : ∀ args Q, S.sp args Q → args.length = ps.length)
    (hb : ∀ [Pn] (f : Addr) (cdv : Value) (A : Around) (outer : List PySem.Env) (s : Shared) (H : Hp) (E : XK), Room k (A.deeper (envOfC n (defScope st) s.heap.objs.size f cdv)) → (A.deeper (envOfC n (defScope st) s.heap.objs.size f cdv)).guards = some [] → LSs (cxOf CX0 P w K mg base N n (defScope st) f cdv A outer s H E).nox (defBody st) ir)
    (hsp : ∀ args Q, S.sp args Q → ir (endsOf args Q) (rho0 N args)) : Cal P w K mg base (k + 1) n ps S := by
  obtain ⟨f, fd, h1, h2, h3⟩ := D.ex
  exact ⟨f, fd, def_ok h1 Sc len (hb f) hsp, h2, h1.kp, h3⟩
structure Glb (K : PySem.W.Frag) (mg : Str → Option Value) (n : Str) (d : PD) : Prop where
  ex : ∃ v u, mg n = some u ∧ RelV v u ∧ ∀ F, Df K F v d
theorem LD.glb [Pn] {d : PD} (h : Glb X.K X.mg n d) (hg : Gl X n) (hd : (n == ("__debug__" : Str)) = false := by decide) : LD X (.Name n pos) (dC d) := by
  obtain ⟨v, u, h1, h2, h3⟩ := h.ex
  exact LD.glob hg h1 h2 h3 hd
def FreeOk (sc : Scope) : List Str → Prop
  | [] => True
  | x :: r => (sc.names.lookup x = some .cell ∨ sc.names.lookup x = some .free) ∧ FreeOk sc r
theorem FreeOk.mem {sc : Scope} : ∀ {xs : List Str} {x : Str}, FreeOk sc xs → x ∈ xs → sc.names.lookup x = some .cell ∨ sc.names.lookup x = some .free
  | [], x, _, h => by simp at h
  | y :: r, x, h, hx => by
    rcases List.mem_cons.mp hx with rfl | hx
    · exact h.1
    · exact FreeOk.mem h.2 hx
def blkChk (N : List Str) (scope : Scope) (own : List (Str × Nat)) (frees : List Str) : Bool :=
  decide (scope.kind = .function) && scope.names.all (fun y => decide (scope.names.lookup y.1 = some y.2)) && own.all (fun p => decide (N[p.2]? = some p.1)) &&
  scope.names.all (fun y => !decide (y.2 = .free) || decide (y.1 ∈ frees)) && scope.names.all (fun y => !(decide (y.2 = .local) || decide (y.2 = .cell)) || decide (y.1 ∈ own.map (·.1)) || decide (y.1 ∉ N))
theorem blk_mk {N : List Str} {sc scope : Scope} {own : List (Str × Nat)} (frees : List Str) (h : blkChk N scope own frees = true) (hf : FreeOk sc frees) : BlkOk N sc scope own := by
  unfold blkChk at h
  simp only [Bool.and_eq_true, List.all_eq_true, Bool.or_eq_true, Bool.not_eq_true', decide_eq_true_eq, decide_eq_false_iff_not] at h
  obtain ⟨⟨⟨⟨h1, h2⟩, h3⟩, h4⟩, h5⟩ := h
  refine ⟨h1, h2, h3, fun y hy e => hf.mem ((h4 y hy).resolve_left fun z => z e), fun y hy e => ?_⟩
  rcases h5 y hy with (z | z) | z
  · simp only [Bool.or_eq_false_iff, decide_eq_false_iff_not] at z
    exact e.elim (fun q => absurd q z.1) fun q => absurd q z.2
  · exact .inl z
  · exact .inr z
end
def dSlS (i : Nat) (lo hi : TPd) : TD := fun ρ Q => match ρ[i]? with
  | some (some (.sc xs)) => lo ρ fun a ρ1 => hi ρ1 fun b ρ2 => Q (.list (cutD xs a b)) ρ2
  | _ => False
theorem LD.slS [Pn] {X : Cx} {e : Expr} {lo hi : Option Expr} {tl th : TPd} {p2 pos : Pos} (i : Nat) (he : PE X e (tVar i)) (hl : LP X lo tl) (hh : LP X hi th) : LD X (.Subscript e (.Slice lo hi none p2) pos) (dSlS i tl th) :=
  ⟨peImp (pe_slice sl_list he hl.p hh.p) fun σ H Q ⟨G, ρ, F, Q', R, q, c⟩ => by
    unfold dSlS at q
    split at q
    · rename_i xs er
      obtain ⟨v, es, a, vs, rfl, hq, ds⟩ := R.sl i _ er
      refine ⟨_, es, G, ρ, F, _, R, q, fun x ρ1 H1 F1 h1 R1 s1 => ⟨G, ρ1, F1, _, R1, h1, fun y ρ2 H2 F2 h2 R2 s2 => ?_⟩⟩
      have s12 := s1.trans s2
      refine ⟨a, vs, rfl, R2.fh.seq (s12.seq hq), fun p hp => ?_⟩
      have g := Grow.frozen R2.fh hp (.lst (cutV vs x y))
      exact c _ _ _ _ _ h2 (R2.grow g) (s12.trans g.ff) (.lst (.inl upd_same) ((cut_df ds x y).mono (s12.trans g.ff)))
    · exact False.elim q⟩
section
variable {P : Program} {w : World} {K : PySem.W.Frag} {mg mb : Str → Option Value} {k : Nat} {fa a : Addr} {fd : FuncData} {x : Str} {sp : Sp} {s0 : Shared} {vs : List Value} {ns : List Int}
theorem callG (KX : K.In s0.heap) (hns : s0.heap.Ns mainGlobals mg) (hb : s0.heap.Ns builtinsNs mb) (hbb : ∀ x : Str, x ≠ "__name__" → mb x = bootBuiltins x) (hlim : s0.heap.NoLimit) (hdig : s0.heap.NoDigits) (hg : s0.gens = #[])
    (ha : s0.heap.get? a = some { cls := .type "list", data := .seq vs.toArray }) (hi : IntsAre vs ns) (hl : ns.length ≤ sizeLine) (hr : Room k callerA)
    (Fn : ∀ base : Heap, K.In base → base.Ns mainGlobals mg → base.NoDigits → FnG P w K mg base CX0 k fa fd [x] sp) (hbind : ∀ (s : Shared) (u : Value), BindsTo s fd ⟨[u], []⟩ [(x, u)])
    (hsp : ∀ H : Hp, L2.Only H → SqL K H a (ns.map V.int) → sp [.ref a] H (fun v _ => v = .bl true) fun _ _ _ => False) :
    codeAny (model P w) callerA (.call (.ref fa) ⟨[.ref a], []⟩) (fun r s' => r = .ok (.ret (.bool true)) ∧ OldK s0.heap s'.heap ∧ s'.os = s0.os ∧ AllBare s'.gens) s0 := by
  have rv := vals_ints hi
  have lenV := hi.length
  have main : ∀ H : Hp, L2.Only H → SqL K H a (ns.map V.int) → HOk P w H s0.heap → (∀ b, H b ≠ none → b = a) → (H a ≠ none → K.lookup a = none) →
      codeAny (model P w) callerA (.call (.ref fa) ⟨[.ref a], []⟩) (fun r s' => r = .ok (.ret (.bool true)) ∧ OldK s0.heap s'.heap ∧ s'.os = s0.os ∧ AllBare s'.gens) s0 := by
    intro H only sq hok one inK
    -- what is no list stands in the base, too
    have noDict : ∀ {b : Addr} {o : Obj} {es : Array DictEntry} {ep : Nat}, s0.heap.get? b = some o → o.data = .dict es ep → H b = none := fun {b o es ep} e d => by
      by_cases z : H b = none
      · exact z
      · have : b = a := one b z
        subst this
        rw [ha] at e; cases e; cases d
    have ns' : ∀ {b : Addr} {m : Str → Option Value}, s0.heap.Ns b m → (hidT s0.heap H).Ns b m := fun ⟨o, es, ep, e, d, r⟩ => ⟨o, es, ep, hidT_get e (noDict e d), d, r⟩
    have kin : K.In (hidT s0.heap H) := fun b o e => hidT_get (KX b o e) (by
      by_cases z : H b = none
      · exact z
      · have q : b = a := one b z
        subst q
        have := inK z
        rw [this] at e; cases e)
    have mod : Mod K mg (hidT s0.heap H) := ⟨kin, ns' hns, ⟨mb, ns' hb, hbb⟩, let ⟨mc, h1, h2⟩ := hlim; ⟨mc, ns' h1, h2⟩⟩
    have dig : (hidT s0.heap H).NoDigits := let ⟨mc, h1, h2⟩ := hdig; ⟨mc, ns' h1, h2⟩
    have env0 : Env0 P w K mg (hidT s0.heap H) callerA [] s0 H := ⟨rfl, mod, fun b o e => of_hidT e, Nat.le_of_eq (hidT_size _ _), trivial, fun b z => (by cases z), hok, .of_eq hg⟩
    refine codeAny_mono ((Fn _ kin (ns' hns) dig).run callerA [] s0 H ⟨[.ref a], []⟩ [.ref a] [.ref a] _ _ hr rfl env0 (hbind s0 (.ref a)) (.cons rfl .nil) (hsp H only sq)) fun r s' h => ?_
    rcases r with e | fl
    · exact False.elim h
    · cases fl <;> first | exact False.elim h | skip
      rename_i u
      obtain ⟨v, H', os, bare, un, hok', r', q⟩ := h
      have q : v = .bl true := q
      subst q
      have r' : u = Value.bool true := r'
      subst r'
      refine ⟨rfl, OldK.of_keep fun b o e => ?_, os, bare⟩
      rcases only b with z | ⟨ob, xs, z⟩
      · exact un.keep b o e z (fun hm => by cases hm) (fun hm => by cases hm)
      · have z2 := un.frzs b ob _ z
        have e1 := (hok b _ z).1
        have e2 := (hok' b _ z2).1
        rw [e] at e1; cases e1; exact e2
  cases hk : K.lookup a with
  | some o =>
    have e := KX a o hk
    rw [ha] at e
    cases e
    refine main (fun _ => none) (fun _ => .inl rfl) (.inr ⟨_, vs.toArray, _, hk, rfl, rfl, rfl, ?_, by simpa using rv⟩) (fun b u z => by cases z) (fun b z => absurd rfl z) fun z => absurd rfl z
    simp only [List.size_toArray, lenV]; exact hl
  | none =>
    let H : Hp := fun b => if b = a then some (.frz { cls := .type "list", data := .seq vs.toArray } (.lst (ns.map V.int))) else none
    have at_ : H a = some (.frz { cls := .type "list", data := .seq vs.toArray } (.lst (ns.map V.int))) := if_pos rfl
    have off : ∀ {b}, b ≠ a → H b = none := fun z => if_neg z
    refine main H (fun b => ?_) (.inl (.inr ⟨_, at_⟩)) (fun b u z => ?_) (fun b z => ?_) fun _ => hk
    · by_cases hb : b = a
      · subst hb; exact .inr ⟨_, _, at_⟩
      · exact .inl (off hb)
    · by_cases hb : b = a
      · subst hb
        rw [at_] at z
        cases z
        refine ⟨ha, ?_, vs, _, rv, ha⟩
        simp only [List.length_map]; exact hl
      · rw [off hb] at z; cases z
    · by_cases hb : b = a
      · exact hb
      · exact absurd (off hb) z
def lawS : FSpec := ⟨fun args Q => ∃ ns : List Int, args = [.sc (ns.map .int)] ∧ ns.length ≤ 63 ∧ Q (.d (.bool true)) []⟩
theorem lawS_end {H : Hp} (hS : SqL K H a (ns.map V.int)) (hl : ns.length ≤ 63) : liftC K lawS [.ref a] H (fun v _ => v = .bl true) fun _ _ _ => False := by
  refine ⟨[.sc (ns.map .int)], H, [], 0, fun r outs => r = .d (.bool true), Same.refl _, .cons ⟨a, _, rfl, hS, DfA.ints ns⟩ .nil, ⟨List.nodup_nil, (fun a h => by cases h), rfl, Nat.le_refl _, (fun k b h => by cases h), fun i j l m b xs ys e1 e2 h1 h2 => by cases i with | zero => simp at e1; subst e1; cases h1 | succ i => simp at e1⟩, ⟨ns, rfl, hl, rfl⟩, fun r outs v F' H' e Po => ?_⟩
  subst e
  have := Po.rs
  cases this
  rfl
open PySem.W in
theorem walkG {l : PySem.W.OpenLaw} {q : Program} {loose : List Str} {XP : (Str → Option Value) → Heap → Prop} {YP : World → Heap → Prop} {d : DefRec} {K : Params → PySem.W.Frag} {x : Str}
    (hn : l.most = some 63) (hdf : d.params.defaults = []) (hr : Room k callerA) (hY : ∀ (w : World) (h : Heap), YP w h → (K w.params).In h)
    (Fn : ∀ (w : World) (mg : Str → Option Value) (fa : Addr) (h : Heap), (K w.params).In h → h.Ns mainGlobals mg → mg d.name = some (.ref fa) →
      ∃ fd : FuncData, (∀ (s : Shared) (u : Value), BindsTo s fd ⟨[u], []⟩ [(x, u)]) ∧ ∀ base : Heap, (K w.params).In base → base.Ns mainGlobals mg → base.NoDigits → FnG l.prog w (K w.params) mg base CX0 k fa fd [x] (liftC (K w.params) lawS)) :
    PySem.W.WalkO q loose XP YP l.row.toRowW d [] (fun f vs => PySem.call f vs) := by
  refine Att.attach_call hn hdf fun w s₀ s₁ mg mb fa o pm cd doc a vs ns G Y ho hd hcd hmg hobj hints hlen hg => ?_
  have KX := hY w _ Y
  obtain ⟨fd, hb, hF⟩ := Fn w mg fa _ KX G.T.g hmg
  exact callG KX G.T.g G.T.b G.T.builtins G.T.nolimit G.T.nodigits hg hobj hints (Nat.le_trans hlen (by decide)) hr hF hb fun H _ hS => lawS_end hS hlen
end
end DL
namespace DL
open PySem L2 PyProof.Rows
mutual
/-- what repr shows here: no dict, ints of at most 4300 figures -/
def shw : PD → Bool
  | .int i => decide (i.natAbs < 10 ^ 4300)
  | .list xs => shwA xs
  | .tuple xs => shwA xs
  | .dict _ => false
  | .none => true
  | .bool _ => true
  | .str _ => true
def shwA : List PD → Bool
  | [] => true
  | x :: r => shw x && shwA r
end
section
variable {prog : Program} {w : World} {A : Around} {E : Value → Shared → Prop} {s : Shared} {a : Int} {t : Tok}
theorem intCallW {Q : Value → Shared → Prop} (hn : s.heap.NoDigits) (hl : a.natAbs < 10 ^ 4300) (h : Q (.str (toString a) s.toks) { s with toks := s.toks + 1 }) :
    wpAny (model prog w) A (call (.builtin "int.__repr__") [.int a t]) Q E s := by
  refine wpAny_call_entry F.slot_int_repr (typeIs_int s a t) F.entry_int_repr ?_ (F.args_int_repr_1 _); unfold Builtin.«int.__repr__»
  show wpAny _ _ (do let r ← Builtin.overDigitLimit? a; _) _ _ s; refine wpAny_bind (overDigitLimit_any hn (fun l => ?_) (fun g => absurd hl (Nat.not_lt.mpr g)))
  exact wpAny_bind (wpAny_mkStr (wpAny_pure ⟨_, rfl, h⟩) (int_text_fits10 hl))
theorem intReprW {Q : Value → Shared → Prop} (hu : A.units + 1 < cLine) (hn : s.heap.NoDigits) (hl : a.natAbs < 10 ^ 4300) (h : Q (.str (toString a) s.toks) { s with toks := s.toks + 1 }) :
    wpAny (model prog w) A (pyReprObj (.int a t)) Q E s :=
  wpAny_pyReprObj_slot (by omega) (typeIs_int s a t) F.slot_int_repr.toG (intCallW hn hl ⟨_, _, rfl, h⟩)
variable {h₀ : Heap}
mutual
theorem rk_of (hn : h₀.NoDigits) : ∀ {v : Value} {d : PD} {as : List Addr}, Reads h₀ v d as → shw d = true → d.shown.length ≤ sizeLine → ∃ bs, ReadAtMost h₀ (d.depth + 1) bs ∧ (∀ b ∈ bs, ∃ e as, Reads h₀ (.ref b) e as ∧ e.depth ≤ d.depth) ∧ ReprK prog w bs h₀ (d.depth + 1) v d.shown
  | _, _, _, .none, _, _ => ⟨[], (fun _ h => nomatch h), (fun _ h => nomatch h), by rw [PyData.shown]; exact .of_is ReprIs.none _ _ _⟩
  | _, _, _, .bool b, _, _ => ⟨[], (fun _ h => nomatch h), (fun _ h => nomatch h), by rw [PyData.shown]; exact .of_is (ReprIs.bool b) _ _ _⟩
  | _, _, _, .str x t, _, hz => ⟨[], (fun _ h => nomatch h), (fun _ h => nomatch h), by rw [PyData.shown] at hz ⊢; exact .of_is (ReprIs.str x t hz) _ _ _⟩
  | _, _, _, .int i t, hs, hz => ⟨[], (fun _ h => nomatch h), (fun _ h => nomatch h), by
      rw [PyData.shown]
      intro base hb A g E s Q hg hc hu hk hQ
      rw [pyReprUnder_leaf (v := .int i t) (by omega) (fun _ e => nomatch e)]
      unfold pyRepr
      exact wpAny_bind (intReprW (by simp only [PyData.depth] at hu; omega) (hn.keeps hk) (by simpa [shw] using hs) (wpAny_pure (hQ s.heap _ fun _ _ e => e)))⟩
  | _, _, _, .dict _ _ _ _ _, hs, _ => by simp [shw] at hs
  | _, _, _, .list (a := a) (vs := vs) (xs := xs) h1 h2 h3 h4, hs, hz => by
    rw [PyData.shown] at hz ⊢
    obtain ⟨bs, hb, hb2, hk⟩ := rkA_of hn h4 (by simpa [shw] using hs) (fun t ht => Nat.le_trans (listText_mem_le ht) hz)
    have r : Reads h₀ (.ref a) (.list xs) _ := .list h1 h2 h3 h4
    have dd : (PyData.list xs).depth = PyData.depthAll xs + 1 := by first | rfl | (simp only [PyData.depth]; done) | (simp only [PyData.depth]; omega)
    have hna : a ∉ bs := fun hm => by
      obtain ⟨e, as', r', le⟩ := hb2 a hm
      obtain ⟨q, _⟩ := reads_det (fun _ _ e _ => e) r r'
      rw [q, dd] at le
      omega
    have all : ∀ b ∈ a :: bs, ∃ e as, Reads h₀ (.ref b) e as ∧ e.depth ≤ (PyData.list xs).depth := fun b hm => by
      rcases List.mem_cons.mp hm with q | hm
      · subst q; exact ⟨_, _, r, Nat.le_refl _⟩
      · obtain ⟨e, as', r', le⟩ := hb2 b hm; exact ⟨e, as', r', by omega⟩
    refine ⟨a :: bs, fun b hm => let ⟨e, as', r', le⟩ := all b hm; ⟨e, as', r', by omega⟩, all, ?_⟩
    rw [dd]
    obtain ⟨l⟩ := vs
    cases l with
    | nil =>
      have h4' : ReadsAll h₀ [] xs _ := h4
      cases h4'
      rw [PyData.shownAll, listText_nil]
      exact ReprK.listEmpty h1 h2 h3
    | cons x l => exact ReprK.list h1 h2 h3 hna (by simpa using hk.length_eq) (fun i y e => hk.item i y (by simpa using e))
  | _, _, _, .tuple (a := a) (xs := xs) h1 h2 h3 h4, hs, hz => by
    rw [PyData.shown] at hz ⊢
    obtain ⟨bs, hb, hb2, hk⟩ := rkA_of hn h4 (by simpa [shw] using hs) (fun t ht => Nat.le_trans (tupleText_mem_le ht) hz)
    have r : Reads h₀ (.ref a) (.tuple xs) _ := .tuple h1 h2 h3 h4
    have dd : (PyData.tuple xs).depth = PyData.depthAll xs + 1 := by first | rfl | (simp only [PyData.depth]; done) | (simp only [PyData.depth]; omega)
    have hna : a ∉ bs := fun hm => by
      obtain ⟨e, as', r', le⟩ := hb2 a hm
      obtain ⟨q, _⟩ := reads_det (fun _ _ e _ => e) r r'
      rw [q, dd] at le
      omega
    have all : ∀ b ∈ a :: bs, ∃ e as, Reads h₀ (.ref b) e as ∧ e.depth ≤ (PyData.tuple xs).depth := fun b hm => by
      rcases List.mem_cons.mp hm with q | hm
      · subst q; exact ⟨_, _, r, Nat.le_refl _⟩
      · obtain ⟨e, as', r', le⟩ := hb2 b hm; exact ⟨e, as', r', by omega⟩
    refine ⟨a :: bs, fun b hm => let ⟨e, as', r', le⟩ := all b hm; ⟨e, as', r', by omega⟩, all, ?_⟩
    rw [dd]
    exact ReprK.tuple h1 h2 h3 hna hk
theorem rkA_of (hn : h₀.NoDigits) : ∀ {vs : List Value} {ds : List PD} {as : List Addr}, ReadsAll h₀ vs ds as → shwA ds = true → (∀ t ∈ PyData.shownAll ds, t.length ≤ sizeLine) →
    ∃ bs, ReadAtMost h₀ (PyData.depthAll ds + 1) bs ∧ (∀ b ∈ bs, ∃ e as, Reads h₀ (.ref b) e as ∧ e.depth ≤ PyData.depthAll ds) ∧ ReprAllK prog w bs h₀ (PyData.depthAll ds + 1) vs (PyData.shownAll ds)
  | _, _, _, .nil, _, _ => ⟨[], (fun _ h => nomatch h), (fun _ h => nomatch h), by rw [PyData.shownAll]; exact .nil⟩
  | _, _, _, .cons (d := d) (ds := ds) r rs, hs, hz => by
    have hs' : shw d = true ∧ shwA ds = true := by simpa [shwA] using hs
    rw [PyData.shownAll] at hz ⊢
    obtain ⟨b1, hb1, hc1, k1⟩ := rk_of hn r hs'.1 (hz _ List.mem_cons_self)
    obtain ⟨b2, hb2, hc2, k2⟩ := rkA_of hn rs hs'.2 (fun t ht => hz t (List.mem_cons_of_mem _ ht))
    have m1 : d.depth ≤ PyData.depthAll (d :: ds) := by simp only [PyData.depthAll]; exact Nat.le_max_left _ _
    have m2 : PyData.depthAll ds ≤ PyData.depthAll (d :: ds) := by simp only [PyData.depthAll]; exact Nat.le_max_right _ _
    have all : ∀ b ∈ b1 ++ b2, ∃ e as, Reads h₀ (.ref b) e as ∧ e.depth ≤ PyData.depthAll (d :: ds) := fun b hm => by
      rcases List.mem_append.mp hm with hm | hm
      · obtain ⟨e, as', r', le⟩ := hc1 b hm; exact ⟨e, as', r', by omega⟩
      · obtain ⟨e, as', r', le⟩ := hc2 b hm; exact ⟨e, as', r', by omega⟩
    exact ⟨b1 ++ b2, fun b hm => let ⟨e, as', r', le⟩ := all b hm; ⟨e, as', r', by omega⟩, all,
      .cons ((k1.more fun b hb => List.mem_append_left _ hb).level_le (by omega)) (k2.more_le (fun b hb => List.mem_append_right _ hb) (by omega))⟩
end
theorem reprW (hn : h₀.NoDigits) {b : Addr} {d : PD} {as : List Addr} {Q : Value → Shared → Prop} (r : Reads h₀ (.ref b) d as) (hs : shw d = true) (hz : d.shown.length ≤ sizeLine) (hg : A.guards = some []) (hu : A.units + (d.depth + 2) < cLine)
    (hk0 : ∀ b o, h₀.get? b = some o → s.heap.get? b = some o) (hQ : ∀ h' u tk, (∀ b o, s.heap.get? b = some o → h'.get? b = some o) → Q (.str d.shown u) { s with heap := h', toks := tk }) :
    wpAny (model prog w) A (call (.builtin "repr") [.ref b]) Q E s := by
  cases r with
  | dict _ _ _ _ _ => simp [shw] at hs
  | list h1 h2 h3 h4 =>
    rename_i o vs n xs bs₀
    rw [PyData.shown] at hz
    simp only [PyData.shown] at hQ
    obtain ⟨bs, hb, hb2, hk⟩ := rkA_of (prog := prog) (w := w) hn h4 (by simpa [shw] using hs) (fun t ht => Nat.le_trans (listText_mem_le ht) hz)
    have r : Reads h₀ (.ref b) (.list xs) _ := .list h1 h2 h3 h4
    have dd : (PyData.list xs).depth = PyData.depthAll xs + 1 := by first | rfl | (simp only [PyData.depth]; done) | (simp only [PyData.depth]; omega)
    have hna : b ∉ bs := fun hm => by
      obtain ⟨e, as', r', le⟩ := hb2 b hm
      obtain ⟨q, _⟩ := reads_det (fun _ _ e _ => e) r r'
      rw [q, dd] at le
      omega
    rw [dd] at hu
    refine call_repr_slot (by omega) ⟨o, hk0 _ _ h1, h2⟩ F.slot_list_repr.toG ?_
    obtain ⟨l⟩ := vs
    cases l with
    | nil =>
      have h4' : ReadsAll h₀ [] xs _ := h4
      cases h4'
      simp only [PyData.shownAll, listText_nil] at hQ
      exact call_list_repr_empty ⟨o, hk0 _ _ h1, h2⟩ (hk0 _ _ h1) h3 ⟨_, _, rfl, hQ s.heap _ _ fun _ _ e => e⟩
    | cons x l =>
      exact call_list_reprK h1 h2 h3 hna (by simpa using hk.length_eq) (fun i y e => hk.item i y (by simpa using e)) hg (fun b _ => Clear.nil b) (by show A.units + 1 + _ < cLine; omega) hk0 (fun h' u tk hk => ⟨_, _, rfl, hQ h' u tk hk⟩) hz
  | tuple h1 h2 h3 h4 =>
    rename_i o vs n xs
    rw [PyData.shown] at hz
    simp only [PyData.shown] at hQ
    obtain ⟨bs, hb, hb2, hk⟩ := rkA_of (prog := prog) (w := w) hn h4 (by simpa [shw] using hs) (fun t ht => Nat.le_trans (tupleText_mem_le ht) hz)
    have r : Reads h₀ (.ref b) (.tuple xs) _ := .tuple h1 h2 h3 h4
    have dd : (PyData.tuple xs).depth = PyData.depthAll xs + 1 := by first | rfl | (simp only [PyData.depth]; done) | (simp only [PyData.depth]; omega)
    have hna : b ∉ bs := fun hm => by
      obtain ⟨e, as', r', le⟩ := hb2 b hm
      obtain ⟨q, _⟩ := reads_det (fun _ _ e _ => e) r r'
      rw [q, dd] at le
      omega
    rw [dd] at hu
    refine call_repr_slot (by omega) ⟨o, hk0 _ _ h1, h2⟩ F.slot_tuple_repr ?_
    exact call_tuple_reprK h1 h2 h3 hna hk hg (fun b _ => Clear.nil b) (by show A.units + 1 + _ < cLine; omega) hk0 (fun h' u tk hk => ⟨_, _, rfl, hQ h' u tk hk⟩) hz
end
section
variable {X : Cx} {K : PySem.W.Frag} {F H : Hp}
def rRepr (K : PySem.W.Frag) : List V → Hp → VK → Prop := fun vs H Q => ∃ v d, vs = [v] ∧ Dp K H v d ∧ shw d = true ∧ d.depth ≤ 60 ∧ d.shown.length ≤ sizeLine ∧ Q (.str d.shown) H
def bRepr : FN
  | [d], k => (noDict d = true ∧ shw d = true ∧ d.depth ≤ 60 ∧ d.shown.length ≤ sizeLine) ∧ k (.str d.shown)
  | _, _ => False
theorem ok_repr : BiOk K bRepr (rRepr K) := by
  intro F H vs xs k Q s d h c
  unfold bRepr at h
  split at h
  · obtain ⟨v, rfl, d1⟩ := d.one
    obtain ⟨⟨h1, h2, h3, h4⟩, h5⟩ := h
    exact ⟨v, _, rfl, (d1.df s).dp h1, h2, h3, h4, c _ _ F H h5 (Grow.refl s) (.str _)⟩
  · exact False.elim h
theorem call_repr {k : Nat} (hr : Room k X.A) (hgd : X.A.guards = some []) (hnd : X.base.NoDigits) : CallR X (.builtin "repr") (rRepr X.K) := by
  intro pins s σ H xs us Q I r ⟨v, d, ev, dp, hs, hd, hz, q⟩
  subst ev
  obtain ⟨u, rfl, ru⟩ := vals1 r
  have hu := hr.units
  have nd : s.heap.NoDigits := hnd.keeps I.bk
  obtain ⟨as, rd⟩ := Dp.reads I d v u dp ru
  have fin : ∀ (h' : Heap) (x : Tok) (tk : Nat), (∀ b o, s.heap.get? b = some o → h'.get? b = some o) → EP X pins σ Q (.str d.shown x) { s with heap := h', toks := tk } := fun h' x tk hk => ⟨.str d.shown, H, I.kept (t' := tk) hk, ⟨_, rfl⟩, q⟩
  cases rd with
  | none =>
    have z := fin s.heap s.toks (s.toks + 1) (fun _ _ e => e)
    rw [PyData.shown] at z
    exact call_repr_gives (typeIs_none s) F.slot_NoneType_repr F.entry_NoneType_repr (F.args_NoneType_repr_1 _) gives_none_repr z (hx := by decide)
  | bool b =>
    have z := fin s.heap s.toks (s.toks + 1) (fun _ _ e => e)
    rw [PyData.shown] at z
    exact call_repr_gives (PySem.typeIs_bool s b) F.slot_bool_repr F.entry_bool_repr (F.args_bool_repr_1 _) (gives_bool_repr b) z (hx := by cases b <;> decide)
  | str x t =>
    have z := fin s.heap s.toks (s.toks + 1) (fun _ _ e => e)
    rw [PyData.shown] at z hz
    exact call_repr_gives (typeIs_str s x t) F.slot_str_repr F.entry_str_repr (F.args_str_repr_1 _) (gives_str_repr x t) z (hx := hz)
  | int i t =>
    refine call_repr_slot (by omega) (typeIs_int s i t) F.slot_int_repr.toG (intCallW nd (by simpa [shw] using hs) ⟨_, _, rfl, ?_⟩)
    have := fin s.heap s.toks (s.toks + 1) (fun _ _ e => e)
    rw [PyData.shown] at this; exact this
  | list h1 h2 h3 h4 => exact reprW nd (.list h1 h2 h3 h4) hs hz hgd (by omega) (fun _ _ e => e) fin
  | tuple h1 h2 h3 h4 => exact reprW nd (.tuple h1 h2 h3 h4) hs hz hgd (by omega) (fun _ _ e => e) fin
  | dict h1 h2 h3 h4 h5 => simp [shw] at hs
end
end DL
namespace DL
open PySem L2 PyProof.Rows
section
variable {G : Gm} {X : Cx} {K : PySem.W.Frag} {F F' H H' : Hp} {ρ : En} {σ : L2.St} {e e2 e3 : Expr} {es : List Expr} {pos : Pos} {r r' : R2} {f f' : F2} {oa ob oc : Op1} {ta tb tc : TD} {t u : TTd}
theorem tTest_of [Pn] {te : TE} (ht : ∀ Q, liftD K ta σ H Q → te σ H Q) {Q : Bool → Hp → Prop} (h : liftT K (tVal ta) σ H Q) : tTest te σ H Q := by
  obtain ⟨G, ρ, F, Q', R, q, c⟩ := h
  refine ht _ ⟨G, ρ, F, _, R, q, fun x ρ1 v H1 F1 h1 R1 s1 d => ?_⟩
  split at h1
  · cases d
    exact ⟨_, rfl, c _ _ _ _ h1 R1 s1⟩
  · exact False.elim h1
theorem LT.cmp [Pn] {op : CmpOp} (ho : OpR X (compareOp op) r) (hf : Op2Ok X.K f r) (ha : LO X e oa) (hb : LO X e2 ob) (hm : behindInMarks op e2 = false) : LT X (.Compare e [op] [e2] pos) (tVal (dBin f oa ob)) :=
  ⟨ptImp (pt_cmpR ho ha.p hb.p hm) fun _ _ _ h => tTest_of (fun _ z => tOp_of hf z) h⟩
theorem LT.chain [Pn] {op op' : CmpOp} {p p' : Int → Int → Bool} (ho : OpR X (compareOp op) (rI0 fun i j => .bl (p i j))) (ho' : OpR X (compareOp op') (rI0 fun i j => .bl (p' i j))) (ha : LO X e oa) (hb : LO X e2 ob) (hc : LO X e3 oc)
    (hm : lastMarks [op, op'] [e2, e3] = false := by with_unfolding_all rfl) : LT X (.Compare e [op, op'] [e2, e3] pos) (tVal (dChain p p' oa ob oc)) :=
  ⟨ptImp (pt_chain ho ho' ha.p hb.p hc.p hm) fun _ _ _ h => tTest_of (fun _ z => tChain_of z) h⟩
end
end DL
namespace DL
open PySem L2 PyProof.Rows
theorem noDictA_map : ∀ xs : List PD, noDictA xs = xs.all noDict
  | [] => rfl
  | x :: r => by rw [noDictA, noDictA_map r]; rfl
theorem canLayAll_map : ∀ xs : List PD, PyData.canLayAll0 xs = xs.all PyData.canLay0
  | [] => rfl
  | x :: r => by rw [PyData.canLayAll0, canLayAll_map r]; rfl
theorem shwA_map : ∀ xs : List PD, shwA xs = xs.all shw
  | [] => rfl
  | x :: r => by rw [shwA, shwA_map r]; rfl
theorem depthAll_le {n : Nat} : ∀ {xs : List PD}, (∀ x ∈ xs, x.depth ≤ n) → PyData.depthAll xs ≤ n
  | [], _ => Nat.zero_le _
  | x :: r, h => by
    have h1 := h x List.mem_cons_self
    have h2 := depthAll_le (xs := r) fun y hy => h y (List.mem_cons_of_mem _ hy)
    simp only [PyData.depthAll]
    exact Nat.max_le.mpr ⟨h1, h2⟩
structure Shp (n : Nat) (d : PD) : Prop where
  cl : d.canLay0 = true
  nd : noDict d = true
  dp : d.depth ≤ n
theorem Shp.shp {n : Nat} {d : PD} (h : Shp n d) (hn : n ≤ 64 := by decide) : shp d := by
  refine ⟨?_, h.nd⟩
  have := h.dp
  simp [SeqAt.shaped, h.cl]
  omega
theorem Shp.mono {n m : Nat} {d : PD} (h : Shp n d) (hn : n ≤ m) : Shp m d := ⟨h.cl, h.nd, Nat.le_trans h.dp hn⟩
theorem Shp.list {n : Nat} {xs : List PD} (h : ∀ x ∈ xs, Shp n x) : Shp (n + 1) (.list xs) := by
  refine ⟨?_, ?_, ?_⟩
  · rw [PyData.canLay0, canLayAll_map, List.all_eq_true]; exact fun x hx => (h x hx).cl
  · rw [noDict, noDictA_map, List.all_eq_true]; exact fun x hx => (h x hx).nd
  · simp only [PyData.depth]; exact Nat.succ_le_succ (depthAll_le fun x hx => (h x hx).dp)
theorem Shp.tup {n : Nat} {xs : List PD} (h : ∀ x ∈ xs, Shp n x) : Shp (n + 1) (.tuple xs) := by
  refine ⟨?_, ?_, ?_⟩
  · rw [PyData.canLay0, canLayAll_map, List.all_eq_true]; exact fun x hx => (h x hx).cl
  · rw [noDict, noDictA_map, List.all_eq_true]; exact fun x hx => (h x hx).nd
  · simp only [PyData.depth]; exact Nat.succ_le_succ (depthAll_le fun x hx => (h x hx).dp)
theorem Shp.int {n : Nat} (i : Int) : Shp n (.int i) := ⟨rfl, rfl, Nat.zero_le _⟩
theorem Shp.str {n : Nat} {x : Str} (h : PyData.canLay0 (.str x) = true) : Shp n (.str x) := ⟨h, rfl, Nat.zero_le _⟩
theorem Shp.ints (ns : List Int) {n : Nat} : ∀ x ∈ ns.map PyData.int, Shp n x := fun x hx => by
  obtain ⟨i, _, rfl⟩ := List.mem_map.mp hx
  exact .int i
theorem eqv_nil (xs : List PD) : PyData.eqv (.list xs) (.list []) = xs.isEmpty := by
  cases xs <;> simp [PyData.eqv, PyData.eqvAll]
theorem atI_some {α : Type} {xs : List α} {i : Int} (h0 : 0 ≤ i) (h1 : i < xs.length) : ∃ x, atI xs i = some x ∧ xs[i.toNat]? = some x := by
  have hk : i.toNat < xs.length := by omega
  refine ⟨xs[i.toNat], ?_, List.getElem?_eq_getElem hk⟩
  have e : i = ((i.toNat : Nat) : Int) := by omega
  have := atI_nat (List.getElem?_eq_getElem hk)
  rw [← e] at this
  exact this
theorem log2_lt {i : Int} {k : Nat} (h : i.natAbs < 2 ^ k) (hk : 0 < k) : i.natAbs.log2 < k := by
  by_cases z : i.natAbs = 0
  · rw [z]; simpa using hk
  · exact (Nat.log2_lt z).mpr h
theorem mulOk (a b : Nat) {i j : Int} (h1 : i.natAbs < 2 ^ a) (h2 : j.natAbs < 2 ^ b) (h : a + b ≤ 1000000 := by decide) (h3 : 0 < a := by decide) (h4 : 0 < b := by decide) : IntMulOk i j := by
  refine CMulW.ok ?_
  have x := log2_lt h1 h3
  have y := log2_lt h2 h4
  unfold CMulW
  omega
theorem intBits_le {i : Int} {k : Nat} (h : i.natAbs < 2 ^ k) : Builtin.Int.intBits i ≤ k := by
  unfold Builtin.Int.intBits
  by_cases z : i = 0
  · subst z; simp
  · have zz : (i == 0) = false := by simpa using z
    rw [zz]
    have := (Nat.log2_lt (n := i.natAbs) (k := k) (by omega)).mpr h
    simp only [Bool.false_eq_true, if_false]
    omega
theorem powOk {i j : Int} {k m : Nat} (h : i.natAbs < 2 ^ k) (h0 : 0 ≤ j) (h1 : j ≤ m) (hb : k * m ≤ 2 ^ 27 := by decide) : CPowW i j := by
  refine ⟨h0, ?_⟩
  have a := intBits_le h
  have b : (Builtin.Int.intBits i : Int) * j ≤ (k : Int) * m := Int.mul_le_mul (by omega) h1 h0 (by omega)
  have c : ((k * m : Nat) : Int) ≤ ((2 ^ 27 : Nat) : Int) := Int.ofNat_le.mpr hb
  rw [Int.natCast_mul] at c
  exact Int.le_trans b (by simpa using c)
end DL
namespace DL
open PySem L2 PyProof.Rows
def valP {κ : Type} [DecidableEq κ] : List (κ × PD) → κ → Option PD
  | [], _ => none
  | p :: r, k => if p.1 = k then some p.2 else valP r k
def hasP {κ : Type} [DecidableEq κ] (kvs : List (κ × PD)) (k : κ) : Bool := kvs.any fun p => decide (p.1 = k)
def putP {κ : Type} [DecidableEq κ] (kvs : List (κ × PD)) (k : κ) (x : PD) : List (κ × PD) := if hasP kvs k = true then kvs.map (fun p => if p.1 = k then (p.1, x) else p) else kvs ++ [(k, x)]
def mergeP {κ : Type} [DecidableEq κ] (kvs more : List (κ × PD)) : List (κ × PD) := more.foldl (fun acc p => putP acc p.1 p.2) kvs
section
variable {κ : Type} [DecidableEq κ] {K : PySem.W.Frag} {F F' : Hp} {us : List (κ × V)} {kvs : List (κ × PD)} {k : κ} {v : V} {x : PD}
theorem DKv.val (h : DKv K F us kvs) (k : κ) : (valV us k = none ∧ valP kvs k = none) ∨ ∃ v x, valV us k = some v ∧ valP kvs k = some x ∧ Df K F v x := by
  unfold DKv at h
  induction h with
  | nil => exact .inl ⟨rfl, rfl⟩
  | @cons p q ps qs a b ih =>
    by_cases e : p.1 = k
    · exact .inr ⟨p.2, q.2, valV_pos e, if_pos (a.1.symm.trans e), a.2⟩
    · rw [valV_neg e]
      have : valP (q :: qs) k = valP qs k := if_neg fun z => e (a.1.trans z)
      rw [this]; exact ih
theorem DKv.has (h : DKv K F us kvs) (k : κ) : (us.any fun p => decide (p.1 = k)) = hasP kvs k := by
  unfold DKv at h
  unfold hasP
  induction h with
  | nil => rfl
  | @cons p q ps qs a b ih => rw [List.any_cons, List.any_cons, ih, a.1]
theorem DKv.append (h : DKv K F us kvs) {us2 : List (κ × V)} {kvs2 : List (κ × PD)} (g : DKv K F us2 kvs2) : DKv K F (us ++ us2) (kvs ++ kvs2) := by
  unfold DKv at *
  induction h with
  | nil => exact g
  | cons a b ih => exact .cons a ih
theorem DKv.put (h : DKv K F us kvs) (d : Df K F v x) : DKv K F (putK us k v) (putP kvs k x) := by
  unfold putK putP
  rw [h.has k]
  split
  · rename_i hh
    clear hh
    unfold DKv at h ⊢
    induction h with
    | nil => exact .nil
    | @cons p q ps qs a b ih =>
      refine .cons ?_ ih
      dsimp only
      by_cases e : p.1 = k
      · rw [if_pos e, if_pos (a.1.symm.trans e)]; exact ⟨a.1, d⟩
      · rw [if_neg e, if_neg fun z => e (a.1.trans z)]; exact a
  · exact h.append (.cons ⟨rfl, d⟩ .nil)
theorem DKv.length (h : DKv K F us kvs) : us.length = kvs.length := by
  unfold DKv at h
  induction h with
  | nil => rfl
  | cons _ _ ih => rw [List.length_cons, List.length_cons, ih]
end
section
variable {G : Gm} {X : Cx} {K : PySem.W.Frag} {F F' H H' : Hp} {ρ : En} {σ : L2.St} {e e2 e3 o : Expr} {es : List Expr} {pos cpos apos : Pos} {oa ob oc : Op1} {ta tb tc : TD} {t u : TTd} {tf : TF} {v : V} {x : PD}
theorem DKv.merge {us : List (Key × V)} {kvs : List (Key × PD)} : ∀ {m : List (Key × V)} {n : List (Key × PD)}, DKv K F us kvs → DKv K F m n → DKv K F (mergeK us m) (mergeP kvs n) := by
  intro m n h g
  unfold DKv at g
  induction g generalizing us kvs with
  | nil => exact h
  | @cons p q ps qs a b ih =>
    have z : DKv K F (putK us p.1 p.2) (putP kvs q.1 q.2) := by rw [a.1]; exact h.put a.2
    exact ih z
def dVals : List TD → En → (List PD → En → Prop) → Prop
  | [], ρ, Q => Q [] ρ
  | t :: r, ρ, Q => t ρ fun x ρ1 => dVals r ρ1 fun xs ρ2 => Q (x :: xs) ρ2
def liftPr [Pn] (K : PySem.W.Frag) (ks : List Key) (ts : List TD) (σ : L2.St) (H : Hp) (Q : List (V × V) → Hp → Prop) : Prop := ∃ G ρ F Q', Rel K G ρ F σ H ∧ dVals ts ρ Q' ∧
  ∀ xs ρ' vs H' F', Q' xs ρ' → Rel K G ρ' F' σ H' → Same F F' → DfA K F' vs xs → vs.length = ks.length → Q ((ks.zip vs).map fun p => (kV p.1, p.2)) H'
structure LPr [Pn] (X : Cx) (pos : Pos) (keys : List (Option Expr)) (values : List Expr) (ks : List Key) (ts : List TD) : Prop where
  ex : ∃ trs, PPs X pos keys values trs ∧ ∀ σ H Q, liftPr X.K ks ts σ H Q → tPairs trs σ H Q
theorem LPr.nil [Pn] : LPr X pos [] [] [] [] := ⟨[], pps_nil, fun σ H Q ⟨G, ρ, F, Q', R, q, c⟩ => c [] ρ [] H F q R (Same.refl _) .nil rfl⟩
theorem LPr.cons [Pn] {ke : Expr} {k : Key} {tk : L2.TE} {ks : List (Option Expr)} {vs : List Expr} {kr : List Key} {ts : List TD} (hk : PE X ke tk) (hk2 : ∀ σ H Q, Q (kV k) H → tk σ H Q) (h : LD X e ta) (r : LPr X pos ks vs kr ts) : LPr X pos (some ke :: ks) (e :: vs) (k :: kr) (ta :: ts) := by
  obtain ⟨trs, p, w⟩ := r.ex
  refine ⟨_, pps_cons hk h.p p, fun σ H Q ⟨G, ρ, F, Q', R, q, c⟩ => hk2 _ _ _ ⟨G, ρ, F, _, R, q, fun x ρ1 v H1 F1 h1 R1 s1 d => w _ _ _ ⟨G, ρ1, F1, _, R1, h1, fun xs ρ2 us H2 F2 h2 R2 s2 d2 hl => ?_⟩⟩⟩
  exact c (x :: xs) ρ2 (v :: us) H2 F2 h2 R2 (s1.trans s2) (.cons (d.mono s2) d2) (by rw [List.length_cons, List.length_cons, hl])
theorem LPr.cs [Pn] {x : Str} {j : Nat} {p : Pos} {ks : List (Option Expr)} {vs : List Expr} {kr : List Key} {ts : List TD} (h : LD X e ta) (r : LPr X pos ks vs kr ts) : LPr X pos (some (.Constant (.str x) j p) :: ks) (e :: vs) (.inr x :: kr) (ta :: ts) :=
  LPr.cons pe_str (fun _ _ _ q => q) h r
theorem zip_kv {ks : List Key} {vs : List V} {xs : List PD} (d : DfA K F vs xs) : DKv K F (ks.zip vs) (ks.zip xs) := by
  induction ks generalizing vs xs with
  | nil => exact .nil
  | cons k r ih =>
    cases d with
    | nil => exact .nil
    | cons a b => exact .cons ⟨rfl, a⟩ (ih b)
def fDict (ks : List Key) (ts : List TD) : TF := fun ρ Q => dVals ts ρ fun xs ρ1 => Q (.dk none (mergeP [] (ks.zip xs))) ρ1
theorem LF.dict [Pn] {keys : List (Option Expr)} {values : List Expr} {ks : List Key} {ts : List TD} (h : LPr X pos keys values ks ts) (hall : keys.all (·.isSome) = true) (hl : keys.length = values.length) (h0 : keys ≠ []) (h15 : keys.length ≤ 15) (h15' : ks.length ≤ 15) :
    LF X (.Dict keys values pos) (fDict ks ts) := by
  obtain ⟨trs, p, w⟩ := h.ex
  refine ⟨peImp (pe_disp p hall hl h0 h15) fun σ H Q ⟨G, ρ, F, Q', R, q, c⟩ p hp => w _ _ _ ?_⟩
  have R1 := R.grow (Grow.owned R.fh hp (.dK []))
  have h00 := R.h0 hp
  have nd : ∀ (j : Nat) (m : Lc), ρ[j]? = some (some m) → m.own = true → σ[j]? ≠ some (some (.ref p)) := fun j m e hm z => by
    obtain ⟨a, e1, nf, ow, ob, eo, _⟩ := R.at_ e hm
    rw [z] at e1
    have : p = a := by simpa using e1
    subst this
    rw [hp] at eo; cases eo
  have dio : p ∉ G.io := fun z => (R.ih p z).2 h00
  have Rp := R1.pin (R.fh.free hp) upd_same h00 nd (R.noN_free hp)
  refine ⟨_, ρ, F, _, Rp, q, fun xs ρ1 vs H1 F1 h1 R2 s1 d hn => ?_⟩
  obtain ⟨R3, f3, h3, n3⟩ := R2.unpin R.ok h00 (R.ff.free (R.fh.free hp)) dio
  refine ⟨h3, ks.zip vs, rfl, by rw [List.length_zip]; omega, ?_⟩
  have ok : DKv X.K F1 (mergeK [] (ks.zip vs)) (mergeP [] (ks.zip xs)) := DKv.merge .nil (zip_kv d)
  exact c _ _ _ _ _ h1 (R3.side f3 h00 n3 (R2.unpinN dio)) s1 ⟨p, rfl, rfl, ⟨f3, h00, _, upd_same, ok⟩, ⟨n3, R2.unpinN dio, .nil rfl⟩⟩
def keyP : PD → Option Key
  | .int i => some (.inl i)
  | .str s => some (.inr s)
  | _ => none
theorem keyP_v {y : PD} {k : Key} (h : keyP y = some k) {v : V} (d : Dr K F H v y) : v = kV k := by
  cases y <;> simp [keyP] at h
  · subst h; exact d.int
  · subst h; exact d.str
def dGetF (t : TF) (oa ob : Op1) : TD := fun ρ Q => t ρ fun l ρ1 => match l with
  | .dk none kvs => oa.run ρ1 fun a ρ2 => ob.run ρ2 fun b ρ3 => res1 ρ3 a fun y => resF ρ3 b fun z => ∃ k, keyP y = some k ∧ Q ((valP kvs k).getD z) ρ3
  | _ => False
theorem LD.getF [Pn] (hu : X.A.units + 1 < cLine) (h : LF X o tf) (ha : LO X e oa) (hb : LO X e2 ob) (m : M2 X o "get" apos e e2 cpos) : LD X (.Call (.Attribute o "get" apos) [e, e2] [] cpos) (dGetF tf oa ob) :=
  ⟨peImp (pe_dget2 hu h.p ha.p hb.p m) fun σ H Q ⟨G, ρ, F, Q', R, q, c⟩ => ⟨G, ρ, F, _, R, q, fun l ρ1 v H1 F1 h1 R1 s1 r1 => by
    split at h1
    · rename_i kvs
      obtain ⟨G', Rp, back⟩ := r1.keep R1
      obtain ⟨a, ev, _, ⟨nf, ow, ob', eo, ok⟩, _⟩ := r1
      cases ob' <;> first | exact False.elim ok | skip
      rename_i us
      refine ⟨a, ev, .inl ⟨us, .inl eo⟩, G', ρ1, F1, _, Rp, h1, fun x ρ2 w H2 F2 h2 R2 s2 ax => ⟨G', ρ2, F2, _, R2, h2, fun y ρ3 w2 H3 F3 h3 R3 s3 ay => ?_⟩⟩
      obtain ⟨R4, r4, _⟩ := back R3 (s2.trans s3)
      obtain ⟨y', h4, dx⟩ := res1_dr R4 (ax.mono s3) h3
      obtain ⟨z', h5, dz⟩ := resF_df R4 ay h4
      obtain ⟨k, hk, h6⟩ := h5
      obtain ⟨b, ev2, _, ⟨nf2, ow2, ob2, eo2, ok2⟩, _⟩ := r4
      have eab : a = b := by rw [ev] at ev2; exact V.ref.inj ev2
      subst eab
      cases ob2 <;> first | exact False.elim ok2 | skip
      rename_i us2
      have ok2 : DKv X.K F3 us2 kvs := ok2
      refine ⟨_, .inl ⟨us2, k, .inl eo2, keyP_v hk dx, rfl⟩, ?_⟩
      have s123 := s1.trans (s2.trans s3)
      rcases ok2.val k with ⟨e1, e2⟩ | ⟨v', x', e1, e2, d'⟩
      · rw [e1]; rw [e2] at h6
        exact c _ _ _ _ _ h6 R4 s123 dz
      · rw [e1]; rw [e2] at h6
        exact c _ _ _ _ _ h6 R4 s123 d'
    · exact False.elim h1⟩⟩
end
end DL
namespace DL
open PySem L2 PyProof.Rows
section
variable {G : Gm} {X : Cx} {K : PySem.W.Frag} {F F' H H' : Hp} {ρ : En} {σ : L2.St} {e e2 e3 o : Expr} {es : List Expr} {pos p2 p p3 : Pos} {oa ob oc : Op1} {ta tb tc : TD} {t u : TTd} {tf : TF} {v : V} {x : PD}
end
section
variable {P : Program} {w : World} {K : PySem.W.Frag} {mg : Str → Option Value} {base : Heap} {k : Nat} {n : Str} {X : Cx} {p pos : Pos} {S : FSpec}
end
theorem pO [Pn] {X : Cx} {e : Expr} {t : Op1} (h : LO X e t) : PE X e (liftO X.K t) := h.p
theorem pD [Pn] {X : Cx} {e : Expr} {t : TD} (h : LD X e t) : PE X e (liftD X.K t) := h.p
theorem pT [Pn] {X : Cx} {e : Expr} {t : TTd} (h : LT X e t) : PT X e (liftT X.K t) := h.p
theorem Cal.vac {P : Program} {w : World} {K : PySem.W.Frag} {mg : Str → Option Value} {base : Heap} {k : Nat} {n : Str} {st : Stmt} {ps : List Str} {S : FSpec} (D : Dn K mg n st ps) (no : ∀ args Q, ¬ S.sp args Q) : Cal P w K mg base k n ps S := by
  obtain ⟨f, fd, h1, h2, h3⟩ := D.ex
  have no' : ∀ vs H Q E, ¬ liftC K S vs H Q E := fun vs H Q E h => by
    obtain ⟨args, F, ios, n, Qd, _, _, _, h, _⟩ := h
    exact no _ _ h
  exact ⟨f, fd, ⟨fun vs H Q E h => absurd h (no' vs H Q E), fun A outer s H args us vs Q E _ _ _ _ _ h => absurd h (no' vs H Q E)⟩, h2, h1.kp, h3⟩
end DL
namespace DL
open PySem L2 PyProof.Rows
def lenS (z : Nat) : List Str → Nat
  | [] => 0
  | t :: r => t.length + 2 + lenS z r
theorem lenS_le {z : Nat} : ∀ {ts : List Str}, (∀ t ∈ ts, t.length ≤ z) → lenS z ts ≤ ts.length * (z + 2)
  | [], _ => by simp [lenS]
  | t :: r, h => by
    have h1 := h t List.mem_cons_self
    have h2 := lenS_le (ts := r) fun y hy => h y (List.mem_cons_of_mem _ hy)
    rw [lenS, List.length_cons, Nat.add_mul, Nat.one_mul]
    omega
theorem textFrom_le (z : Nat) : ∀ (ts : List Str) (k : Nat) (acc : Str), (textFrom k acc ts).length ≤ acc.length + lenS z ts
  | [], k, acc => by show acc.length ≤ _; omega
  | t :: r, k, acc => by
    have h := textFrom_le z r (k + 1) (acc ++ (if k > 0 then ", " else "" : String) ++ t)
    have e : textFrom k acc (t :: r) = textFrom (k + 1) (acc ++ (if k > 0 then ", " else "" : String) ++ t) r := rfl
    rw [e]
    rw [strLen_append, strLen_append] at h
    have : (Str.ofString (if k > 0 then ", " else "" : String)).length ≤ 2 := by split <;> decide
    rw [lenS]
    omega
theorem listText_le (z : Nat) (ts : List Str) : (listText ts).length ≤ 2 + lenS z ts := by
  have h := textFrom_le z ts 0 "["
  have e : (listText ts).length = (textFrom 0 "[" ts).length + 1 := by
    show (textFrom 0 "[" ts ++ "]").length = _
    rw [strLen_append]; rfl
  have : (Str.ofString "[").length = 1 := by decide
  omega
theorem join_le (z : Nat) : ∀ ts : List Str, (Str.join ", " ts).length ≤ lenS z ts
  | [] => by show 0 ≤ _; exact Nat.zero_le _
  | [x] => by show x.length ≤ x.length + 2 + 0; omega
  | x :: y :: r => by
    have h := join_le z (y :: r)
    have e : Str.join ", " (x :: y :: r) = x ++ ", " ++ Str.join ", " (y :: r) := rfl
    rw [e, strLen_append, strLen_append, lenS]
    have : (Str.ofString ", ").length = 2 := by decide
    omega
theorem tupleText_le (z : Nat) (ts : List Str) : (tupleText ts).length ≤ 3 + lenS z ts := by
  have h := join_le z ts
  unfold tupleText
  rw [strLen_append, strLen_append]
  have : (Str.ofString (if ts.length == 1 then ",)" else ")" : String)).length ≤ 2 := by split <;> decide
  have : (Str.ofString "(").length = 1 := by decide
  omega
structure Shw (n z : Nat) (d : PD) : Prop where
  nd : noDict d = true
  sh : shw d = true
  dp : d.depth ≤ n
  ln : d.shown.length ≤ z
theorem Shw.mono {n n' z z' : Nat} {d : PD} (h : Shw n z d) (h1 : n ≤ n') (h2 : z ≤ z') : Shw n' z' d := ⟨h.nd, h.sh, Nat.le_trans h.dp h1, Nat.le_trans h.ln h2⟩
theorem Shw.ok {n z : Nat} {d : PD} (h : Shw n z d) (h1 : n ≤ 60 := by decide) (h2 : z ≤ 16777216 := by decide) : noDict d = true ∧ shw d = true ∧ d.depth ≤ 60 ∧ d.shown.length ≤ sizeLine :=
  ⟨h.nd, h.sh, Nat.le_trans h.dp h1, by rw [sizeLine_eq]; exact Nat.le_trans h.ln h2⟩
theorem shownAll_map : ∀ xs : List PD, PyData.shownAll xs = xs.map PyData.shown
  | [] => rfl
  | x :: r => by rw [PyData.shownAll, shownAll_map r]; rfl
theorem Shw.int {n k : Nat} {i : Int} (h : i.natAbs < 2 ^ k) (hk : k ≤ 14000 := by decide) (h0 : 0 < k := by decide) : Shw n (k + 1) (.int i) := by
  refine ⟨rfl, ?_, Nat.zero_le _, ?_⟩
  · have z : (2 : Nat) ^ 14000 ≤ 10 ^ 4300 := by decide +kernel
    have : i.natAbs < 10 ^ 4300 := Nat.lt_of_lt_of_le h (Nat.le_trans (Nat.pow_le_pow_right (by decide) hk) z)
    exact decide_eq_true this
  · have := int_text_length_le h0 (log2_lt h h0)
    rw [PyData.shown, PySem.ofString_length]
    exact this
theorem Shw.non {n : Nat} : Shw n 4 .none := ⟨rfl, rfl, Nat.zero_le _, by rw [PyData.shown]; decide⟩
theorem Shw.bl {n : Nat} (b : Bool) : Shw n 5 (.bool b) := ⟨rfl, rfl, Nat.zero_le _, by rw [PyData.shown]; cases b <;> decide⟩
theorem Shw.str {n z : Nat} {x : Str} (h : (reprText x).length ≤ z) : Shw n z (.str x) := ⟨rfl, rfl, Nat.zero_le _, by rw [PyData.shown]; exact h⟩
theorem Shw.list {n z : Nat} {xs : List PD} (h : ∀ x ∈ xs, Shw n z x) : Shw (n + 1) (2 + xs.length * (z + 2)) (.list xs) := by
  refine ⟨?_, ?_, ?_, ?_⟩
  · rw [noDict, noDictA_map, List.all_eq_true]; exact fun x hx => (h x hx).nd
  · rw [shw, shwA_map, List.all_eq_true]; exact fun x hx => (h x hx).sh
  · simp only [PyData.depth]; exact Nat.succ_le_succ (depthAll_le fun x hx => (h x hx).dp)
  · rw [PyData.shown, shownAll_map]
    have a := listText_le z (xs.map PyData.shown)
    have b := lenS_le (z := z) (ts := xs.map PyData.shown) fun t ht => by
      obtain ⟨x, hx, rfl⟩ := List.mem_map.mp ht
      exact (h x hx).ln
    rw [List.length_map] at b
    omega
theorem Shw.tup {n z : Nat} {xs : List PD} (h : ∀ x ∈ xs, Shw n z x) : Shw (n + 1) (3 + xs.length * (z + 2)) (.tuple xs) := by
  refine ⟨?_, ?_, ?_, ?_⟩
  · rw [noDict, noDictA_map, List.all_eq_true]; exact fun x hx => (h x hx).nd
  · rw [shw, shwA_map, List.all_eq_true]; exact fun x hx => (h x hx).sh
  · simp only [PyData.depth]; exact Nat.succ_le_succ (depthAll_le fun x hx => (h x hx).dp)
  · rw [PyData.shown, shownAll_map]
    have a := tupleText_le z (xs.map PyData.shown)
    have b := lenS_le (z := z) (ts := xs.map PyData.shown) fun t ht => by
      obtain ⟨x, hx, rfl⟩ := List.mem_map.mp ht
      exact (h x hx).ln
    rw [List.length_map] at b
    omega
end DL
namespace DL
open PySem L2 PyProof.Rows
section
variable {X : Cx} {e e2 e3 : Expr} {pos : Pos} {ta tb tc : TD}
end
end DL
namespace DL
open PySem L2 PyProof.Rows
section
variable {X : Cx} {e : Expr} {pos : Pos} {ta : TD}
end
end DL
namespace DL
open PySem L2 PyProof.Rows
section
variable {X : Cx} {K : PySem.W.Frag} {F H : Hp}
def cInT (neg : Bool) : F2 := fun x y k => shp x ∧ ∃ ys, y = .tuple ys ∧ shp (.tuple ys) ∧ PyData.depthAll ys ≤ 5 ∧ k (.bool (if neg then !(ys.any fun z => PyData.eqv z x) else ys.any fun z => PyData.eqv z x))
def rInT (K : PySem.W.Frag) (neg : Bool) : R2 := fun x y H Q => ∃ e es, (Dp K H x e ∧ SeqAt.shaped e = true) ∧ (Dp K H y (.tuple es) ∧ SeqAt.shaped (.tuple es) = true) ∧ PyData.depthAll es ≤ 5 ∧ Q (.bl (if neg then !(es.any fun z => PyData.eqv z e) else es.any fun z => PyData.eqv z e)) H
theorem op_notInT (hu : X.A.units + 64 < cLine) : OpR X (compareOp .NotIn) (rInT X.K true) := by
  rintro pins s σ H x y v u Q I rx ry ⟨e, es, ⟨p1, s1⟩, ⟨p2, s2⟩, hd, q⟩
  obtain ⟨ns, w1⟩ := Dp.reads I e x v p1 rx
  obtain ⟨ms, w2⟩ := Dp.reads I (.tuple es) y u p2 ry
  refine SeqAt.notIn_tuple_reads w2 w1 (SeqAt.canLay_of_shaped s2) (SeqAt.canLay_of_shaped s1) ?_ ⟨.bl _, H, I, rfl, q⟩
  have := Nat.min_le_left (PyData.depthAll es) e.depth
  omega
theorem ok_inT (neg : Bool) : Op2Ok K (cInT neg) (rInT K neg) := by
  rintro F H vx vy x y k Q s dx dy ⟨sx, ys, rfl, sy, hd, h⟩ c
  exact ⟨x, ys, ⟨(dx.df s).dp sx.2, sx.1⟩, ⟨(dy.df s).dp sy.2, sy.1⟩, hd, c _ _ F H h (Grow.refl s) (.bl _)⟩
end
end DL
namespace DL
open PySem L2 PyProof.Rows
abbrev P2 := Int × Int
def prI (p : P2) : PD := .tuple [.int p.1, .int p.2]
def lexLe (p q : P2) : Prop := p.1 < q.1 ∨ (p.1 = q.1 ∧ p.2 ≤ q.2)
section
variable {X : Cx} {K : PySem.W.Frag} {F H : Hp}
end
end DL
namespace DL
open PySem L2 PyProof.Rows
section
variable {X : Cx} {K : PySem.W.Frag} {F H : Hp}
abbrev P3 := Int × Int × Int
def lt2 (p q : P2) : Bool := if p.1 = q.1 then (if p.2 = q.2 then false else decide (p.2 < q.2)) else decide (p.1 < q.1)
def lt1 (p q : P3) : Bool := if p.1 = q.1 then (if p.2 = q.2 then false else lt2 p.2 q.2) else decide (p.1 < q.1)
theorem df_two {v : V} {x y : PD} (s : Same F H) (d : Df K F v (.tuple [x, y])) : ∃ l a b, v = .ref l ∧ SqT K H l [a, b] ∧ Df K F a x ∧ Df K F b y := by
  cases d with
  | tup hq ds => cases ds with
    | cons e ds => cases ds with
      | cons f ds => cases ds; exact ⟨_, _, _, rfl, seqT s hq, e, f⟩
end
end DL
namespace DL
open PySem L2 PyProof.Rows
section
variable {X : Cx} {K : PySem.W.Frag} {F H : Hp} {P : Program} {w : World}
variable {e : Expr} {p p2 pos pos2 : Pos} {tt : TAd}
end
end DL
namespace DL
open PySem L2 PyProof.Rows
section
variable {X : Cx} {K : PySem.W.Frag} {F H : Hp} {e o : Expr} {pos p : Pos} {oa ob : Op1} {tf : TF}
end
end DL
namespace DL
open PySem L2 PyProof.Rows
section
variable {X : Cx} {K : PySem.W.Frag} {F H : Hp}
end
def cl (s : Str) : List Nat := s.cps.toList
end DL
namespace DL
open PySem L2 PyProof.Rows
section
variable {X : Cx} {e : Expr} {pos : Pos} {oa : Op1}
theorem DfA.reverse {K : PySem.W.Frag} {F : Hp} : ∀ {vs : List V} {xs : List PD}, DfA K F vs xs → DfA K F vs.reverse xs.reverse
  | [], [], _ => .nil
  | [], _ :: _, d => by cases d
  | _ :: _, [], d => by cases d
  | v :: vs, x :: xs, d => by
    cases d with
    | cons a b =>
      rw [List.reverse_cons, List.reverse_cons]
      exact (DfA.reverse b).append (.cons a .nil)
end
end DL
namespace DL
open PySem L2 PyProof.Rows
section
variable {X : Cx} {e o : Expr} {y : Str} {pos p p2 cpos yp : Pos} {ta : TD} {s t : Nat}
theorem keys_of {K : PySem.W.Frag} {F : Hp} : ∀ {ks : List Key} {vs : List V}, DfA K F vs (ks.map keyD) → vs = ks.map kV
  | [], vs, h => by cases h; rfl
  | k :: r, vs, h => by
    rw [List.map_cons] at h
    cases h with
    | cons a b =>
      rw [keys_of b, List.map_cons]
      congr 1
      cases k with
      | inl i =>
        have a : Df K F _ (.int i) := a
        cases a; rfl
      | inr x =>
        have a : Df K F _ (.str x) := a
        cases a; rfl
end
end DL
namespace DL
open PySem L2 PyProof.Rows
section
variable {X : Cx} {K : PySem.W.Frag} {F H : Hp}
def rCat0 (K : PySem.W.Frag) : R2 := fun x y H Q => ∃ a b ys, x = .ref a ∧ y = .ref b ∧ SqT K H a [] ∧ SqT K H b ys ∧ Q (.ref b) H
theorem op_cat0 : OpR X (binaryOp .Add) (rCat0 X.K) := fun pins z σ H x y u1 u2 Q I rx ry ⟨a, b, ys, ex, ey, ha, hb, q⟩ => by
  subst ex ey
  cases rx
  cases ry
  obtain ⟨l1, v1, t1, _⟩ := I.tuple ha
  obtain ⟨l2, _, t2, _⟩ := I.tuple hb
  have none_ : l1 = [] := v1.nil_iff.mpr rfl
  obtain ⟨⟨k1, e1, w1, s1⟩, g1, c1, n1, d1⟩ := id t1
  obtain ⟨⟨k2, e2, w2, s2⟩, g2, c2, n2, d2⟩ := id t2
  simp only at c1 d1 c2 d2
  subst c1 d1 c2 d2
  refine concat_meets ⟨_, g1, rfl⟩ ⟨_, g2, rfl⟩ noFill_tuple_add seq_tuple_add PySem.F.slot_tuple_add PySem.F.entry_tuple_add (PySem.F.args_tuple_add_2 _ _) (tuple_addW0 a b l1.toArray l2.toArray n1 n2 e1 e2 s1 s2 (by simp [none_])) ?_
  exact ⟨g1, g2, ⟨.ref b, H, I, rfl, q⟩⟩
def bAddT : F2
  | .tuple xs, .tuple ys, k => xs.length + ys.length ≤ sizeLine ∧ k (.tuple (xs ++ ys))
  | _, _, _ => False
def rAddT (K : PySem.W.Frag) : R2 := fun x y H Q => rCatT K x y H Q ∨ rCat0 K x y H Q
theorem op_addT : OpR X (binaryOp .Add) (rAddT X.K) := op_catT.or op_cat0
theorem ok_addT : Op2Ok K bAddT (rAddT K) := by
  intro F H vx vy x y k Q s dx dy h c
  unfold bAddT at h
  split at h
  · obtain ⟨a, vs, rfl, q, d⟩ := dx.tup s
    obtain ⟨b, us, rfl, q2, d2⟩ := dy.tup s
    obtain ⟨h2, h3⟩ := h
    by_cases ne : vs = []
    · subst ne
      cases d
      rw [List.nil_append] at h3
      refine .inr ⟨a, b, us, rfl, rfl, q, q2, ?_⟩
      cases dy with
      | f dy => exact c _ _ F H h3 (Grow.refl s) dy
    · refine .inl ⟨a, b, vs, us, rfl, rfl, q, q2, ne, by rw [d.length, d2.length]; exact h2, ?_, ?_⟩
      · intro e
        have : us = [] := e
        subst this
        cases d2
        rw [List.append_nil] at h3
        cases dx with
        | f dx => exact c _ _ F H h3 (Grow.refl s) dx
      · intro _ p hp
        have g := Grow.frozen s hp (.tup (vs ++ us))
        exact c _ _ _ _ h3 g (.tup (SqT.of upd_same) ((d.append d2).mono g.ff))
  · exact False.elim h
end
end DL
namespace DL
open PySem L2 PyProof.Rows
abbrev itOb (t : Addr) : Obj := { cls := .type "tuple_iterator", data := .fields #[.ref t, .int 0 0] }
abbrev enmOb (it : Addr) : Obj := { cls := .type "enumerate", data := .fields #[.none, .bool false, .ref it, rawInt 0, .none, .none] }
theorem enm_new {v : Value} {o : Obj} {C : Heap → Prop} (B : Begins v o C) :
    Meets (Builtin.«enumerate.__new__» ⟨[.type "enumerate", v], []⟩) (fun _ R z => C z.heap ∧ R (.ok (.ret (.ref (z.heap.push o).objs.size))) { z with heap := (z.heap.push o).push (enmOb z.heap.objs.size) }) :=
  .of_wp fun pr wd ar R z ⟨hC, goal⟩ => by
    obtain ⟨hp, gl, dr, tk, ost⟩ := z
    have hsub := sub_enumerate
    have start : ∀ {ar' : Around} {Er Qq : Value → Shared → Prop}, Qq (.ref hp.objs.size) ⟨hp.push o, gl, dr, tk, ost⟩ → wpAny (model pr wd) ar' (pyIter v) Qq Er ⟨hp, gl, dr, tk, ost⟩ := fun k => B.iter _ _ _ _ _ _ hC k
    wp_walk using start
    refine wpAny_stack_any fun _ => wpAny_pure ?_
    split
    · next c _ _ _ _ _ =>
      cases (c == Value.type "enumerate") <;> (wp_walk using start; exact ⟨_, rfl, goal⟩)
    · wp_walk using start
      exact ⟨_, rfl, goal⟩
theorem enm_call {pr : Program} {wd : World} {ar : Around} {Er Qq : Value → Shared → Prop} {z : Shared} {t : Addr} {items : Array Value} (ht : z.heap.IsTuple t items)
    (k : ∀ h', IsEnum h' (z.heap.objs.size + 1) z.heap.objs.size 0 .none → h'.IsTupleIter z.heap.objs.size t 0 → (∀ b ob, z.heap.get? b = some ob → h'.get? b = some ob) → Qq (.ref (z.heap.objs.size + 1)) { z with heap := h' }) :
    wpAny (model pr wd) ar (call (.type "enumerate") [.ref t]) Qq Er z := by
  have B : Begins (.ref t) (itOb t) fun h => h.IsTuple t items := begins_tuple t items
  have size1 : (z.heap.push (itOb t)).objs.size = z.heap.objs.size + 1 := Heap.size_push ..
  have at1 : ((z.heap.push (itOb t)).push (enmOb z.heap.objs.size)).get? (z.heap.objs.size + 1) = some (enmOb z.heap.objs.size) := by
    rw [← size1]
    exact Heap.get?_push_size _ rfl
  have at0 : ((z.heap.push (itOb t)).push (enmOb z.heap.objs.size)).get? z.heap.objs.size = some (itOb t) := Heap.get?_push_of_some _ (Heap.get?_push_size _ rfl)
  refine callType_new PySem.F.called_enumerate (by decide) (PySem.F.typeCall_enumerate_1 _) (PySem.F.newCall_enumerate_1 _) (fun ob => PySem.F.args_object_init_2 ob _) PySem.F.entry_enumerate_new (enm_new B) ⟨ht, ?_⟩
  show _ ∧ _
  rw [size1]
  exact ⟨⟨_, at1, rfl⟩, k _ at1 ⟨_, at0, rfl, rfl⟩ fun b ob' e => Heap.get?_push_of_some _ (Heap.get?_push_of_some _ e)⟩
def ItN (K : PySem.W.Frag) (a : Addr) : It where
  go i H := ∃ vs u, SqT K H a vs ∧ vs[i]? = some u
  yld i H v H' := ∃ p u, v = .ref p ∧ H p = none ∧ H' = upd H p (.tup [.int (i : Nat), u]) ∧ ∀ vs, SqT K H a vs → vs[i]? = some u
  stop i H := ∃ vs : List V, SqT K H a vs ∧ vs.length ≤ i
def EnSt (a e it : Addr) (i : Nat) (h : Heap) : Prop := (∃ last, IsEnum h e it ((i : Nat) : Int) last) ∧ h.IsTupleIter it a i ∧ e ≠ it ∧ a ≠ it ∧ a ≠ e
theorem two_mem {e it b : Addr} (h : b ∈ [e, it]) : b = e ∨ b = it := by simpa using h
theorem turn_N {P : Program} {w : World} {K : PySem.W.Frag} {elts : List Expr} {kk : Nat} {tpos : Pos} (a e it : Addr) : Turn P w K (.Tuple elts kk tpos) (ItN K a) [e, it] e (EnSt a e it) where
  mem := by simp
  obj := fun i h ⟨⟨last, q1⟩, ⟨o, q2, c2, d2⟩, _⟩ b hb => by
    rcases two_mem hb with rfl | rfl
    · exact ⟨_, q1, nofun⟩
    · exact ⟨o, q2, fun v q => by rw [d2] at q; cases q⟩
  keep := fun i h h' ⟨⟨last, q1⟩, q2, ne⟩ k => ⟨⟨last, k e (.head _) _ q1⟩, q2.at fun o q => k it (.tail _ (.head _)) o q, ne⟩
  item := by
    rintro X rfl rfl rfl calm i pins z σ H Er I free ⟨⟨last, q1⟩, q2, n1, n2, n3⟩ ⟨vs, u, sq, hu⟩
    obtain ⟨its, rel, ht, _⟩ := I.tuple sq
    obtain ⟨x, hx, rx⟩ := rel.get hu
    have lt1 : e < z.heap.objs.size := Heap.lt_size q1
    have lt2 : it < z.heap.objs.size := let ⟨_, q, _⟩ := q2; Heap.lt_size q
    have D := Draws.tuple (prog := X.prog) (w := X.w) (show X.A.in1.handled = none from I.ok.hd calm) it a n2 its.toArray
    have hi : i < its.toArray.size := by simpa using (List.getElem?_eq_some_iff.mp hx).1
    refine wpAny_pyNext_enum_itemD D q1 ⟨q2, ht⟩ hi n1 (by simp; exact ⟨n1, Ne.symm n3⟩) fun y h1 tk hy out st1 pr _ kept => ?_
    obtain rfl : y = x := by
      have hy : its.toArray[i]? = some y := hy
      rw [List.getElem?_toArray, hx] at hy
      cases hy
      rfl
    refine ⟨_, rfl, wpAny_letOwnedTupleGo_enum (s := { z with heap := h1, toks := tk + 1 }) out fun h2 back same => ?_⟩
    have pr2 : h2.get? z.heap.objs.size = some { cls := .type "tuple", data := .seq #[.int i tk, y] } := (same.2 _ (Nat.ne_of_gt lt1)).trans pr
    have old : ∀ b ob, b ∉ [e, it] → z.heap.get? b = some ob → h2.get? b = some ob := fun b ob nb q =>
      (same.2 b fun w => nb (w ▸ .head _)).trans (kept b ob (fun w => nb (w ▸ .head _)) (fun w => nb (w ▸ .tail _ (.head _))) q)
    have I2 := I.turnedNew (t' := tk + 1) (ob := .tup [.int (i : Nat), u]) old free (Nat.le_refl _) ⟨by show 2 ≤ sizeLine; decide, [.int i tk, y], .cons ⟨_, rfl⟩ (.cons rx .nil), ⟨_, pr2, rfl, _, rfl⟩⟩
    refine ⟨.ref z.heap.objs.size, _, I2, rfl, ⟨_, u, rfl, I.hok.fresh (Nat.le_refl _), rfl, fun ws hw => by rw [I.tuple_inj hw sq]; exact hu⟩, ⟨⟨y, ?_⟩, st1.1.at fun o q => (same.2 it (Ne.symm n1)).trans q, n1, n2, n3⟩, fun b hb => ?_⟩
    · rw [show ((i + 1 : Nat) : Int) = (i : Int) + 1 from rfl]
      exact back
    · rw [upd_ne (Nat.ne_of_lt (by rcases two_mem hb with rfl | rfl <;> assumption))]
      exact (free b hb).1
  done := by
    rintro X rfl rfl rfl calm i pins z σ H Er I free ⟨⟨last, q1⟩, q2, n1, n2, n3⟩ ⟨vs, sq, hl⟩
    obtain ⟨its, rel, ht, _⟩ := I.tuple sq
    have len := rel.length
    have f := free it (.tail _ (.head _))
    have typ : z.TypeIs (.ref e) "enumerate" := ⟨_, q1, rfl⟩
    have stop := I.ok.hd calm
    unfold pyNext
    refine wpAny_bind (wpAny_attempt (wpAny_callSpecial?_slot (name := Str.ofString "__next__") typ PySem.F.slot_enumerate_next (wpAny_call_entry PySem.F.slot_enumerate_next typ PySem.F.entry_enumerate_next ?_ (PySem.F.args_enumerate_next_1 _))))
    show wpAny _ _ (field (.ref e) 2 >>= _) _ _ z
    refine wpAny_bind (wpAny_field q1 rfl (x := .ref it) rfl (wpAny_bind (wpAny_nextOf_tuple_end stop q2 ht (by simp; omega) fun h' x ext ⟨ob, hob, cls⟩ => ?_)))
    exact wpAny_bind (wpAny_isInstance (T := "StopIteration") (b := true) ⟨ob, hob, cls⟩ isSubtype_stop (wpAny_pure ⟨rfl, I.turned (t' := z.toks) (fun b o hb q => ext b o hb q) f.1 f.2.1 f.2.2.2.1 f.2.2.2.2.1 f.2.2.2.2.2⟩))
  self := fun _ _ _ _ _ ⟨⟨_, q1⟩, _⟩ k => wpAny_pyIter_enum q1 k
def tEnN (K : PySem.W.Frag) (ta : TA) : TI := fun σ H R => ta σ H fun vs H1 => ∃ a us, vs = [.ref a] ∧ SqT K H1 a us ∧ R (ItN K a) H1
theorem pi_N {X : Cx} {e : Expr} {ta : TA} {p pos tpos : Pos} {elts : List Expr} {kk : Nat} (hg : Gl X "enumerate") (hm : X.mg "enumerate" = none) (ha : PA X [e] ta) (hs : starEach [e] X.env = [(false, eval e X.env)] := by rfl) :
    PI X (.Tuple elts kk tpos) (.Call (.Name "enumerate" p) [e] [] pos) (tEnN X.K ta) :=
  ⟨fun pins z σ H R I h => Call_ (ld_blt I hg hm boot_enumerate (PyProof.Rows.callWith_type1 (thn (ha.run pos pins z σ H _ I h) fun us z1 ⟨vs, H1, I1, r1, a, ws, ev, sq, q⟩ => by
    subst ev
    obtain ⟨u1, rfl, ru⟩ := vals1 r1
    cases ru
    obtain ⟨its, rel, ht, _⟩ := I1.tuple sq
    have la : a < z1.heap.objs.size := let ⟨_, q, _⟩ := ht; Heap.lt_size q
    refine enm_call ht fun h' q1 q2 kept => wpAny_pyIter_enum q1 ⟨z1.heap.objs.size + 1, [z1.heap.objs.size + 1, z1.heap.objs.size], _, _, H1, rfl, I1.kept (t' := z1.toks) kept, turn_N a _ _, ⟨⟨.none, q1⟩, q2, Nat.succ_ne_self _, Nat.ne_of_lt la, Nat.ne_of_lt (Nat.lt_succ_of_lt la)⟩, fun b hb => ?_, q⟩
    have lb : z1.heap.objs.size ≤ b := by rcases two_mem hb with rfl | rfl <;> omega
    exact I1.fpOk lb (I1.hok.fresh lb)) hs rfl))⟩
section
variable {X : Cx} {e : Expr} {p pos : Pos} {ta : TD}
def iEnmT (t : TD) : TId := fun ρ Q => t ρ fun x ρ1 => match x with
  | .tuple xs => Q (.items (enumD xs)) ρ1
  | _ => False
theorem LI.enumT [Pn] {elts : List Expr} {kk : Nat} {tpos : Pos} (hg : Gl X "enumerate") (hm : X.mg "enumerate" = none) (h : LD X e ta) (hs : starEach [e] X.env = [(false, eval e X.env)] := by rfl) :
    LI X (.Tuple elts kk tpos) (.Call (.Name "enumerate" p) [e] [] pos) (iEnmT ta) :=
  ⟨piImp (pi_N hg hm (pa_cons h.p pa_nil hs) hs) fun σ H R ⟨G, ρ, F, Q', Rl, q, c⟩ => ⟨G, ρ, F, _, Rl, q, fun x ρ1 v H1 F1 h1 R1 s1 d => by
    split at h1
    · rename_i xs
      cases d with
      | tup hq ds =>
        rename_i a vs
        have hl : vs.length = xs.length := ds.length
        refine ⟨a, vs, rfl, seqT R1.fh hq, c _ _ _ _ _ h1 R1 s1 (wk_pair (f := fun _ => none) (g := fun _ => none) (a := []) (b := []) (n := xs.length) (by unfold enumD; simp) ?_ ?_ ?_)⟩
        · exact fun i F H s s2 hi => ⟨vs, seqT s2 (seqT s hq), by omega⟩
        · intro i F H s s2 hi
          exact ⟨vs, vs[i]'(by omega), seqT s2 (seqT s hq), List.getElem?_eq_getElem _⟩
        · intro i F H x H' s s2 hi ⟨T, u, e1, hT, e2, hu⟩
          have hu := hu vs (seqT s2 (seqT s hq))
          obtain ⟨d, hd, du⟩ := ds.get' hu
          exact ⟨T, _, u, .int (i : Nat), d, e1, hT, e2, .int _, du, enumD_get hd⟩
    · exact False.elim h1⟩⟩
end
end DL
namespace DL
open PySem L2 PyProof.Rows
section
variable {X : Cx} {e o e2 : Expr} {pos p p2 apos cpos : Pos} {ta : TD} {oa ob : Op1} {s : Nat}
end
end DL
namespace DL
open PySem L2 PyProof.Rows
section
variable {X : Cx} {K : PySem.W.Frag} {F H : Hp} {e o : Expr} {pos p2 : Pos} {ta : TD} {oa : Op1} {s : Nat} {C : Addr} {f : Str}
def putFP (f : Str) (x : PD) : List (Str × PD) → List (Str × PD)
  | [] => [(f, x)]
  | (g, y) :: r => if g = f then (f, x) :: r else (g, y) :: putFP f x r
theorem DKv.putF {v : V} {x : PD} (hx : Df K F v x) : ∀ {us : List (Str × V)} {fs : List (Str × PD)}, DKv K F us fs → DKv K F (L2.putF f v us) (putFP f x fs)
  | [], fs, h => by cases h; exact .cons ⟨rfl, hx⟩ .nil
  | (g, u) :: us, fs, h => by
    cases h with
    | @cons _ q _ r a b =>
      obtain ⟨g', y⟩ := q
      obtain ⟨a1, a2⟩ := a
      have a1 : g = g' := a1
      subst a1
      have ih := DKv.putF hx b
      unfold L2.putF putFP
      by_cases hg : g = f
      · rw [if_pos hg, if_pos hg]; exact .cons ⟨hg, hx⟩ b
      · rw [if_neg hg, if_neg hg]; exact .cons ⟨rfl, a2⟩ ih
def fldP : List (PD × PD) → Str → Option PD
  | [], _ => none
  | (.str k, y) :: r, f => if k = f then some y else fldP r f
  | _ :: r, f => fldP r f
theorem fld_df : ∀ {us : List (Str × V)} {es : List (PD × PD)}, DfF K F us es → ∀ {y : PD}, fldP es f = some y → ∃ v, us.lookup f = some v ∧ Df K F v y
  | [], es, h, y, e => by cases h; cases e
  | (k, u) :: us, es, h, y, e => by
    cases h with
    | @cons _ _ _ d ds a b =>
      by_cases hk : k = f
      · subst hk
        have e : (if k = k then some d else fldP ds k) = some y := e
        rw [if_pos rfl] at e
        cases e
        exact ⟨u, by simp [List.lookup], a⟩
      · have e : (if k = f then some d else fldP ds f) = some y := e
        rw [if_neg hk] at e
        obtain ⟨v, h1, h2⟩ := fld_df b e
        refine ⟨v, ?_, h2⟩
        have nb : (f == k) = false := beq_eq_false_iff_ne.mpr (Ne.symm hk)
        simp only [List.lookup, nb]
        exact h1
end
end DL
namespace DL
open PySem L2 PyProof.Rows
section
variable {X : Cx} {K : PySem.W.Frag} {G : Gm} {ρ : En} {σ : L2.St} {F H : Hp} {l : Lc} {v : V} {C : Addr}
theorem Rel.more [Pn] (R : Rel K G ρ F σ H) (k : RsOk K G F H ρ σ l v) : Rel K G ((ρ ++ [none]).set ρ.length (some l)) F ((σ ++ [none]).set ρ.length (some v)) H := by
  have ln := R.len
  have low : ∀ {j : Nat} {m : Lc}, (ρ ++ [none])[j]? = some (some m) → ρ[j]? = some (some m) ∧ (σ ++ [none])[j]? = σ[j]? := fun {j m} e => by
    rcases Nat.lt_or_ge j ρ.length with h | h
    · rw [List.getElem?_append_left h] at e
      exact ⟨e, List.getElem?_append_left (by omega)⟩
    · rw [List.getElem?_append_right h] at e
      rcases Nat.eq_zero_or_pos (j - ρ.length) with z | z
      · rw [z] at e; cases e
      · rw [List.getElem?_eq_none (by simp; omega)] at e; cases e
  have R2 : Rel K G (ρ ++ [none]) F (σ ++ [none]) H := R.weak (by simp; exact ln) fun i m e => low e
  have k2 : RsOk K G F H (ρ ++ [none]) (σ ++ [none]) l v := by
    have fr : ∀ {a : Addr}, Frs K G F H ρ σ l a → Frs K G F H (ρ ++ [none]) (σ ++ [none]) l a := fun {a} n =>
      ⟨fun j m e hm q => n.hf j m (low e).1 hm (by rw [← (low e).2]; exact q), n.hn.sub fun j m e => (low e).1, fun b xs hb => ⟨(n.ns b xs hb).1, (n.ns b xs hb).2.1, fun j m e hm q => (n.ns b xs hb).2.2.1 j m (low e).1 hm (by rw [← (low e).2]; exact q), (n.ns b xs hb).2.2.2.sub fun j m e => (low e).1⟩⟩
    cases l with
    | d x => exact k
    | sc x => exact k
    | ls p xs => obtain ⟨a, e1, e2, z, n⟩ := k; exact ⟨a, e1, e2, z, fr n⟩
    | dk p xs => obtain ⟨a, e1, e2, z, n⟩ := k; exact ⟨a, e1, e2, z, fr n⟩
    | dt p xs => obtain ⟨a, e1, e2, z, n⟩ := k; exact ⟨a, e1, e2, z, fr n⟩
    | ob p B xs => obtain ⟨a, e1, e2, z, n⟩ := k; exact ⟨a, e1, e2, z, fr n⟩
    | nb p B xs ns => obtain ⟨a, e1, e2, z, n⟩ := k; exact ⟨a, e1, e2, z, fr n⟩
    | ln p xs => obtain ⟨a, e1, e2, z, n⟩ := k; exact ⟨a, e1, e2, z, fr n⟩
  exact R2.store ρ.length k2.slot.1 k2.slot.2 k2.slotN
end
end DL
namespace DL
open PySem L2 PyProof.Rows
section
variable {X : Cx} {K : PySem.W.Frag} {σ : L2.St} {F H : Hp} {C : Addr}
end
end DL
namespace DL
open PySem L2 PyProof.Rows StX
section
variable {X : Cx} {K : PySem.W.Frag} {σ : L2.St} {F H : Hp} {C : Addr}
end
end DL
namespace DL
open PySem L2 PyProof.Rows StX
section
variable {X : Cx} {P : Program} {w : World} {K : PySem.W.Frag} {mg : Str → Option Value} {base : Heap} {j k : Nat} {C : Addr} {m qual n : Str} {ps : List Str} {S : FSpec} {st : Stmt}
structure CalR (P : Program) (w : World) (K : PySem.W.Frag) (mg : Str → Option Value) (base : Heap) (k : Nat) (R : Addr → Prop) (ps : List Str) (S : FSpec) : Prop where
  ex : ∃ f fd, FnG P w K mg base CX0 k f fd ps (liftC K S) ∧ R f ∧ Binds K fd ps []
theorem CalR.mono {R : Addr → Prop} (h : CalR P w K mg base j R ps S) (hk : j ≤ k) : CalR P w K mg base k R ps S := by
  obtain ⟨f, fd, h1, h2⟩ := h.ex
  exact ⟨f, fd, h1.mono hk, h2⟩
structure CalX (P : Program) (w : World) (K : PySem.W.Frag) (mg : Str → Option Value) (base : Heap) (k : Nat) (R : Addr → Prop) (ps : List Str) (S : FSpec) (dd : List PD) : Prop where
  ex : ∃ f fd, FnG P w K mg base CX0 k f fd ps (liftC K S) ∧ R f ∧ Binds K fd ps [] ∧ ∃ dvs ds, Vals dvs ds ∧ (∀ F : Hp, DfA K F dvs dd) ∧ Binds K fd ps ds
theorem CalX.mono {R : Addr → Prop} {dd : List PD} (h : CalX P w K mg base j R ps S dd) (hk : j ≤ k) : CalX P w K mg base k R ps S dd := by
  obtain ⟨f, fd, h1, h2⟩ := h.ex
  exact ⟨f, fd, h1.mono hk, h2⟩
def sNo : TSt := fun _ _ => False
theorem LS.no [Pn] {z : Stmt} : LS X z sNo := ⟨⟨fun pins s σ H D I h => by
  obtain ⟨_, _, _, _, _, h, _⟩ := h
  exact False.elim h⟩⟩
def dNo : TD := fun _ _ => False
theorem LD.no [Pn] {e : Expr} : LD X e dNo := ⟨⟨fun pins s σ H Q I h => by
  obtain ⟨_, _, _, _, _, h, _⟩ := h
  exact False.elim h⟩⟩
end
end DL
namespace DL
open PySem L2 PyProof.Rows
section
variable {X : Cx} {K : PySem.W.Frag} {F H : Hp} {e o e2 e3 e4 : Expr} {pos p p2 q : Pos} {oa ob oc od : Op1} {s : Nat} {tt : TAd} {σ : L2.St}
end
end DL
namespace DL
open PySem L2 PyProof.Rows PySem.Spec
section
variable {P : Program} {w : World} {A : Around} {E : Value → Shared → Prop}
end
section
variable {X : Cx} {K : PySem.W.Frag} {F H : Hp} {e : Expr} {p p2 pos pos2 : Pos} {tt : TAd}
end
end DL
namespace DL
open PySem L2 PyProof.Rows PySem.Spec
section
variable {X : Cx} {K : PySem.W.Frag}
end
end DL
namespace DL
open PySem L2 PyProof.Rows StX PySem.Spec
section
variable {X : Cx} {K : PySem.W.Frag} {σ : L2.St} {F H : Hp} {C f : Addr} {v : V} {y : PD} {pins : List (Addr × Obj)} {s : Shared} {u : Value}
theorem runIn {k : Nat} {fd : FuncData} {ps : List Str} {sp : Sp} {Q : VK} {us : List Value} {vs : List V} (Gd : FnG X.prog X.w X.K X.mg X.base CX0 k f fd ps sp) (hr : Room (k + 1) X.A) (hgd : X.A.guards = some []) (hb : Binds X.K fd ps [])
    (I : Inv X pins σ H s) (r : Vals vs us) (h : sp vs H Q E0) : wpAny (model X.prog X.w) X.A.in1 (call (.ref f) us) (EP X pins σ Q) X.xe s := by
  have e0 : Env0 X.prog X.w X.K X.mg X.base X.A.in1 X.stack s H := by
    have e := I.env0
    exact ⟨e.frames, e.mod, e.bs, e.bsz, e.funs, e.frf, e.hok, e.bare⟩
  have ll : us.length = ps.length := r.length.symm.trans (Gd.len _ _ _ _ h)
  refine wpAny_call (codeAny_mono (Gd.run X.A.in1 X.stack s H ⟨us, []⟩ us vs Q E0 hr.in1 hgd e0 (by have := hb s us I.kIn (by rw [List.append_nil]; exact ll); rw [List.append_nil] at this; exact this) r h) fun res s' hq => ?_)
  rcases res with e' | fl
  · exact pass0 pins σ H s e' s' I hq
  · cases fl <;> first | exact I.after hq | exact False.elim hq
end
section
variable {X : Cx} {C : Addr} {e e2 : Expr} {pos : Pos} {ta tb : TD} {S : FSpec} {k : Nat} {ps : List Str}
end
end DL
namespace DL
open PySem L2 PyProof.Rows StX PySem.Spec
section
variable {X : Cx} {K : PySem.W.Frag} {σ : L2.St} {F H : Hp} {C f : Addr} {v : V} {y : PD} {pins : List (Addr × Obj)} {s : Shared} {u : Value} {op : Operator}
end
section
variable {X : Cx} {C : Addr} {e e2 : Expr} {pos : Pos} {ta tb : TD} {S : FSpec} {k : Nat} {ps : List Str} {op : Operator} {σ : L2.St} {H : Hp} {Q : VK}
variable {p : Pos} {oa : Op1}
end
end DL
namespace DL
open PySem L2 PyProof.Rows
section
variable {X : Cx} {e : Expr} {oa : Op1} {s : Nat}
end
end DL
namespace DL
open PySem L2 PyProof.Rows
section
variable {X : Cx} {e : Expr} {oa : Op1} {s : Nat}
end
end DL
namespace DL
open PySem L2 PyProof.Rows
section
variable {X : Cx} {e : Expr} {p pos : Pos} {s : Nat} {x : Str}
end
end DL
namespace DL
open PySem L2 PyProof.Rows
section
variable {X : Cx} {e : Expr} {p pos : Pos} {s : Nat} {x : Str}
theorem DKv.keys {K : PySem.W.Frag} {F : Hp} {us : List (Key × V)} {kvs : List (Key × PD)} (h : DKv K F us kvs) : us.map (·.1) = kvs.map (·.1) := by
  induction us generalizing kvs with
  | nil => cases h; rfl
  | cons u us ih =>
    cases h with
    | cons a b => rw [List.map_cons, List.map_cons, ih b, a.1]
end
end DL
namespace DL
open PySem L2 PyProof.Rows
abbrev Xd := Addr × List (PD × PD)
def XcOk (K : PySem.W.Frag) (F : Hp) (x : Xd) (cls : Value) (d : Option Addr) : Prop :=
  cls = .ref x.1 ∧ ((d = none ∧ x.2 = []) ∨ ∃ dd us, d = some dd ∧ F dd = some (.xd us) ∧ DfF K F us x.2)
theorem XcOk.mono {K : PySem.W.Frag} {F F' : Hp} {x : Xd} {cls : Value} {d : Option Addr} (s : Same F F') (h : XcOk K F x cls d) : XcOk K F' x cls d := by
  obtain ⟨e, h⟩ := h
  refine ⟨e, ?_⟩
  rcases h with h | ⟨dd, us, e1, e2, e3⟩
  · exact .inl h
  · exact .inr ⟨dd, us, e1, s _ _ e2, e3.mono s⟩
def WD [Pn] (K : PySem.W.Frag) (u : Xd → En → Prop) : WX := fun cls d σ H => ∃ G ρ F x, Rel K G ρ F σ H ∧ XcOk K F x cls d ∧ u x ρ
structure XSpec where
  sp : List Lc → (Lc → List Lc → Prop) → (Xd → List Lc → Prop) → Prop
def liftX (K : PySem.W.Frag) (S : XSpec) : Sp := fun vs H Q E => ∃ args F ios n Qd Ed, Same F H ∧ ArgsOk K F H ios args vs ∧ IoOk H ios n args ∧
  S.sp args Qd Ed ∧ (∀ r outs v F' H', Qd r outs → Post K F H ios n (nioOf args) r outs v F' H' → Q v H') ∧
  ∀ x outs cls d F' H', Ed x outs → Post K F H ios n (nioOf args) (.d .none) outs .non F' H' → XcOk K F' x cls d → E cls d H'
def fCallX (S : XSpec) (u : Xd → En → Prop) (t : TAd) : TF := fun ρ Q => t ρ fun as ρ1 => match argsAt ρ1 as 0 with
  | some (args, is) => nodupB is = true ∧ S.sp args (fun r outs => putF ρ1 ρ1 is outs fun ρ2 => Q r ρ2) fun x outs => putF ρ1 ρ1 is outs fun ρ2 => u x ρ2
  | none => False
def tCallE (sp : Sp) (W : WX) (t : TA) : TE := fun σ H Q => t σ H fun vs H1 => sp vs H1 Q (WE W σ)
section
variable {G : Gm} {K : PySem.W.Frag} {F F' H H' : Hp} {ρ : En} {σ : L2.St} {v : V} {S : XSpec} {tt : TAd} {u : Xd → En → Prop}
theorem tCallX_of [Pn] {m : Nat} {Q : VK} (h : liftF K (fCallX S u tt) σ H Q) : tCallE (liftX K S) (WD K u) (liftA K m tt) σ H Q := by
  obtain ⟨G, ρ, F, Q', R, q, c⟩ := h
  refine ⟨G, ρ, F, _, R, q, fun as ρ1 vs H1 F1 h1 hl R1 s1 av => ?_⟩
  split at h1
  · rename_i args is ea
    obtain ⟨hn, h1⟩ := h1
    have hn := nodup_of hn
    obtain ⟨ios, p3, io, back⟩ := callIo R1 av ea hn
    refine ⟨args, F1, ios, is.length, _, _, R1.fh, p3, io, h1, fun r outs v F' H' q' P => ?_, fun x outs cls d F' H' q' P xc => ?_⟩
    · obtain ⟨R2, r2⟩ := back P
      have q2 := q'
      change putF _ _ _ _ _ at q2
      rw [putF_eq] at q2
      exact c _ _ _ _ _ q2 R2 (s1.trans P.ff) r2
    · obtain ⟨R2, _⟩ := back P
      have q2 := q'
      change putF _ _ _ _ _ at q2
      rw [putF_eq] at q2
      exact ⟨G, _, F', x, R2, xc, q2⟩
  · exact False.elim h1
end
section
variable {P : Program} {w : World} {K : PySem.W.Frag} {mg : Str → Option Value} {base : Heap} {j k : Nat} {f : Addr} {fd : FuncData} {ps : List Str} {sp : Sp} {X : Cx} {E : XK} {n : Str} {p pos : Pos} {e : Expr} {es : List Expr} {t : TA} {S : XSpec} {tt : TAd} {F H : Hp} {st : Stmt} {u : Xd → En → Prop} {W : WX}
theorem runGS {pins : List (Addr × Obj)} {σ : L2.St} {s : Shared} {Q : VK} {us : List Value} {vs : List V} (Gd : FnG X.prog X.w X.K X.mg X.base (L2.CX X.prog X.w) k f fd ps sp) (hr : Room k X.A) (hgd : X.A.guards = some []) (hb : Binds X.K fd ps [])
    (hx : PassesAt (L2.CX X.prog X.w) X σ E) (I : Inv X pins σ H s) (r : Vals vs us) (h : sp vs H Q E) : wpAny (model X.prog X.w) X.A (call (.ref f) us) (EP X pins σ Q) X.xe s := by
  have ll : us.length = ps.length := r.length.symm.trans (Gd.len _ _ _ _ h)
  have b := hb s us I.kIn (by rw [List.append_nil]; exact ll)
  rw [List.append_nil] at b
  have run := Gd.run X.A X.stack s H ⟨us, []⟩ us vs Q E hr hgd I.env0 b r h
  refine wpAny_call (codeAny_mono run fun res s' hq => ?_)
  rcases res with e' | fl
  · exact hx pins H s e' s' I hq
  · cases fl <;> first | exact I.after hq | exact False.elim hq
theorem peGE (Gd : FnG X.prog X.w X.K X.mg X.base (L2.CX X.prog X.w) k f fd ps sp) (hr : Room k X.A) (hgd : X.A.guards = some []) (hg : Gl X n) (hm : X.mg n = some (.ref f)) (hk : PySem.W.keepIn X.K (.ref f) = true) (hb : Binds X.K fd ps []) (tk : Takes X W)
    (ha : PA X (e :: es) t) (hdb : (n == ("__debug__" : Str)) = false := by decide) (he : starEach (e :: es) X.env = (false, eval e X.env) :: starEach es X.env := by rfl) (hpl : (backTo pos (starEach es X.env)).any (·.1) = false := by rfl) :
    PE X (.Call (.Name n p) (e :: es) [] pos) (tCallE sp W t) :=
  ⟨fun pins s σ H Q I h => wpAny_Call_Name_kw (ld_glob I hg hm (PySem.W.callWith_K (h₀ := X.base) I.ok.mod.kin hk (thn (ha.run pos pins s σ H _ I h) fun us s1 ⟨vs, H1, I1, r, q⟩ => ⟨I1.kIn, runGS Gd hr hgd hb (passAt tk σ) I1 r q⟩) he hpl) hdb)⟩
structure CalE (P : Program) (w : World) (K : PySem.W.Frag) (mg : Str → Option Value) (base : Heap) (k : Nat) (n : Str) (ps : List Str) (S : XSpec) : Prop where
  ex : ∃ f fd, FnG P w K mg base (L2.CX P w) k f fd ps (liftX K S) ∧ mg n = some (.ref f) ∧ PySem.W.keepIn K (.ref f) = true ∧ Binds K fd ps []
theorem CalE.mono (h : CalE P w K mg base j n ps S) (hk : j ≤ k) : CalE P w K mg base k n ps S := by
  obtain ⟨f, fd, h1, h2⟩ := h.ex
  exact ⟨f, fd, h1.mono hk, h2⟩
theorem LF.calE [Pn] (C : CalE X.prog X.w X.K X.mg X.base k n ps S) (hr : Room k X.A) (hgd : X.A.guards = some []) (tk : Takes X (WD X.K u)) (hg : Gl X n) (ha : LA X (e :: es) tt)
    (hdb : (n == ("__debug__" : Str)) = false := by decide) (he : starEach (e :: es) X.env = (false, eval e X.env) :: starEach es X.env := by rfl) (hpl : (backTo pos (starEach es X.env)).any (·.1) = false := by rfl) :
    LF X (.Call (.Name n p) (e :: es) [] pos) (fCallX S u tt) := by
  obtain ⟨f, fd, h1, h2, h3, h4⟩ := C.ex
  exact ⟨peImp (peGE h1 hr hgd hg h2 h3 h4 tk ha.p hdb he hpl) fun σ H Q h => tCallX_of h⟩
def endsX (args : List Lc) (E : Xd → List Lc → Prop) (x : Xd) (ρ : En) : Prop := match outsAt ρ (ioSlots args 0) 0 with
  | some outs => E x outs
  | none => False
theorem Rel.root {G0 : Gm} {ρ : En} {σ : L2.St} : ∀ {G : Gm}, Pins G0 G → @Rel (Pn.at_ G0) K G ρ F σ H → @Rel (Pn.at_ G0) K G0 ρ F σ H := by
  intro G hp
  induction hp with
  | refl => exact fun R => R
  | pin h h0 f0 hio no ih =>
    letI : Pn := Pn.at_ G0
    exact fun R => ih (Rel.unpin (show Pn.P _ from h) R h0 f0 hio no).1
theorem def_okE {x qual : Str} {N : List Str} {ir : (Xd → En → Prop) → TSt} (Fn : FunX K x qual st f fd) (Sc : FnScope N ps (defScope st)) (len : ∀ args Q E, S.sp args Q E → args.length = ps.length)
    (hb : ∀ [Pn] (cdv : Value) (A : Around) (outer : List PySem.Env) (s : Shared) (H : Hp) (E : XK) (u : Xd → En → Prop), Room k (A.deeper (envOfC qual (defScope st) s.heap.objs.size f cdv)) → (A.deeper (envOfC qual (defScope st) s.heap.objs.size f cdv)).guards = some [] →
      Takes (cxOf (L2.CX P w) P w K mg base N qual (defScope st) f cdv A outer s H E) (WD K u) → LSs (cxOf (L2.CX P w) P w K mg base N qual (defScope st) f cdv A outer s H E) (defBody st) (ir u))
    (hsp : ∀ args Q E, S.sp args Q E → ir (endsX args E) (endsOf args Q) (rho0 N args)) : FnG P w K mg base (L2.CX P w) (k + 1) f fd ps (liftX K S) := by
  obtain ⟨oc, od, dV, kV, doc, pm, an, cdv, ct, osl, rfl, lk, hcd⟩ := Fn.ex
  refine fnG lk hcd Sc (fun vs H Q E h => ?_) fun A outer s H vs Q E hr hgd h => ?_
  · obtain ⟨args, F, ios, n, Qd, Ed, _, a, _, h, _⟩ := h
    rw [← a.length]; exact len args Qd Ed h
  · obtain ⟨args, F, ios, n, Qd, Ed, s0, a, io, h, c, cx⟩ := h
    letI : Pn := Pn.at_ ⟨H, F, ios, nioOf args⟩
    have R := Rel.start (N := N) Pins.refl s0 a io
    have ht := io.tg
    have tk : Takes (cxOf (L2.CX P w) P w K mg base N qual (defScope st) f cdv A outer s H E) (WD K (endsX args Ed)) := Takes.imp (takes_of rfl rfl rfl rfl) fun cls d σ H' ⟨G, ρ, F', x, R', xc, hx⟩ => by
      have R0 := Rel.root R'.ok R'
      unfold endsX at hx
      split at hx
      · rename_i outs eo
        exact cx _ _ _ _ _ _ hx (end_post (l := .d .none) (v := .non) ht eo R0 .non) xc
      · exact False.elim hx
    refine ⟨_, (hb cdv A outer s H E (endsX args Ed) hr hgd tk).p, ?_⟩
    exact ⟨⟨H, F, ios, nioOf args⟩, rho0 N args, F, endsOf args Qd, R, hsp args Qd Ed h, ⟨fun ρ σ H' F' hq R' s' => end_fin (l := .d .none) (v := .non) ht c hq R' (show Df K F' .non .none from .non), fun l ρ v σ H' F' hq R' s' r => end_fin ht c hq R' r, fun _ _ _ _ z => False.elim z, fun _ _ _ _ z => False.elim z⟩⟩
theorem def_calE {N : List Str} {ir : (Xd → En → Prop) → TSt} (D : Dn K mg n st ps) (Sc : FnScope N ps (defScope st)) (len : ∀ args Q E, S.sp args Q E → args.length = ps.length)
    (hb : ∀ [Pn] (f : Addr) (cdv : Value) (A : Around) (outer : List PySem.Env) (s : Shared) (H : Hp) (E : XK) (u : Xd → En → Prop), Room k (A.deeper (envOfC n (defScope st) s.heap.objs.size f cdv)) → (A.deeper (envOfC n (defScope st) s.heap.objs.size f cdv)).guards = some [] →
      Takes (cxOf (L2.CX P w) P w K mg base N n (defScope st) f cdv A outer s H E) (WD K u) → LSs (cxOf (L2.CX P w) P w K mg base N n (defScope st) f cdv A outer s H E) (defBody st) (ir u))
    (hsp : ∀ args Q E, S.sp args Q E → ir (endsX args E) (endsOf args Q) (rho0 N args)) : CalE P w K mg base (k + 1) n ps S := by
  obtain ⟨f, fd, h1, h2, h3⟩ := D.ex
  exact ⟨f, fd, def_okE (funX_of h1) Sc len (hb f) hsp, h2, h1.kp, h3⟩
theorem CalE.vac (D : Dn K mg n st ps) (no : ∀ args Q E, ¬ S.sp args Q E) : CalE P w K mg base k n ps S := by
  obtain ⟨f, fd, h1, h2, h3⟩ := D.ex
  have no' : ∀ vs H Q E, ¬ liftX K S vs H Q E := fun vs H Q E h => by
    obtain ⟨args, F, ios, n, Qd, Ed, _, _, _, h, _⟩ := h
    exact no _ _ _ h
  exact ⟨f, fd, ⟨fun vs H Q E h => absurd h (no' vs H Q E), fun A outer s H args us vs Q E _ _ _ _ _ h => absurd h (no' vs H Q E)⟩, h2, h1.kp, h3⟩
end
end DL
namespace DL
open PySem L2 PyProof.Rows
structure HeC (K : PySem.W.Frag) (HC : Addr) : Prop where
  sg : PySem.W.specialIn K (.ref HC) "__getattribute__" = some (some (.builtin "type.__getattribute__"))
  rd : PySem.W.readsIn K HC (.type "type") = true
  vi : PySem.W.findCls K (.ref HC) (.type "type") "__init__" = some (.val (.builtin "ValueError.__init__"))
section
variable {X : Cx} {K : PySem.W.Frag} {e : Expr} {es : List Expr} {ta : TA} {x f : Str} {HC C : Addr} {p p1 p2 pos pos2 : Pos}
theorem pe_hinit {pl : Sem Bool} (hg : Gl X x) (hm : X.mg x = some (.ref HC)) (hc : HeC X.K HC) (ha : PA X (e :: es) ta)
    (ev : eval (.Call (.Attribute (.Name x p1) "__init__" p2) (e :: es) [] pos) X.env = (do
      let ov ← eval (.Name x p1) X.env
      standAt p2.atName
      let (f, first) ← holding [ov] (getMethod ov "__init__" pl)
      callWith pos f first (backTo pos (starEach (e :: es) X.env)) (backToKw pos (keywordEach [] X.env))) := by rfl)
    (hdb : (x == ("__debug__" : Str)) = false := by decide)
    (he : starEach (e :: es) X.env = (false, eval e X.env) :: starEach es X.env := by rfl) (hpl : (backTo pos (starEach es X.env)).any (·.1) = false := by rfl) :
    PE X (.Call (.Attribute (.Name x p1) "__init__" p2) (e :: es) [] pos) (tVeI X.K ta) := by
  refine ⟨fun pins s σ H Q I h => ?_⟩
  refine PySem.W.methodCall_KW (pl := pl) (ld_glob I hg hm ?_ hdb) ev
  refine PySem.W.method_cls I.kIn hc.sg (PySem.W.cls_value I.kIn hc.rd hc.vi (by decide +kernel) ?_)
  show wpAny _ _ (callWith pos (Value.builtin "ValueError.__init__") [] (backTo pos (starEach (e :: es) X.env)) []) _ _ _
  refine callWith_method1 (thn (ha.run pos pins _ σ H _ (I.tok _) h) fun us s1 hh => ?_) he hpl
  obtain ⟨vs, H1, I1, r1, a, C, ws, rfl, hl, T, ea, q⟩ := hh
  cases r1 with
  | @cons _ u0 _ ur ra rr =>
    obtain rfl : u0 = Value.ref a := ra
    refine oinit_ok T I1 ea ?_ fun s' J => ⟨.non, H1, J, rfl, q⟩
    rw [← Paired.length rr, sizeLine_eq]; omega
def spExI (K : PySem.W.Frag) (C : Addr) (names : List Str) : Sp := fun vs H Q _ => ∃ a ys, vs = .ref a :: ys ∧ ys.length = names.length ∧ OexC K C ∧ H a = some (exo a C none) ∧
  ∀ d H3, H d = none → d ≠ a → H3 a = some (exo a C (some d)) → H3 d = some (exd d (names.zip ys).reverse) → (∀ b, b ≠ a → b ≠ d → H3 b = H b) → Q .non H3
structure ExMk (P : Program) (w : World) (K : PySem.W.Frag) (mg : Str → Option Value) (base : Heap) (k : Nat) (n : Str) (C : Addr) (names : List Str) : Prop where
  ex : ∃ fI fd, OexC K C ∧ PySem.W.findIn K (.ref C) "__init__" = some (some (.ref fI)) ∧ PySem.W.typeIn K (.ref fI) = some (.type "function") ∧ FnOk P w K mg base CX0 k fI fd ("self" :: names) (spExI K C names) ∧ Binds K fd ("self" :: names) [] ∧ mg n = some (.ref C)
theorem ExMk.mono {P : Program} {w : World} {mg : Str → Option Value} {base : Heap} {j k : Nat} {n : Str} {names : List Str} (h : ExMk P w K mg base j n C names) (hk : j ≤ k) : ExMk P w K mg base k n C names := by
  obtain ⟨fI, fd, h1, h2, h3, h4, h5⟩ := h.ex
  exact ⟨fI, fd, h1, h2, h3, h4.mono hk, h5⟩
theorem DfF.append {F : Hp} : ∀ {us us2 : List (Str × V)} {es es2 : List (PD × PD)}, DfF K F us es → DfF K F us2 es2 → DfF K F (us ++ us2) (es ++ es2)
  | _, _, _, _, .nil, h => h
  | _, _, _, _, .cons a b, h => .cons a (DfF.append b h)
def xdF (names : List Str) (xs : List PD) : List (PD × PD) := ((names.zip xs).map fun p => (PyData.str p.1, p.2)).reverse
theorem xdF_df {F : Hp} : ∀ {names : List Str} {vs : List V} {xs : List PD}, DfA K F vs xs → DfF K F (names.zip vs).reverse (xdF names xs)
  | [], vs, xs, _ => by unfold xdF; simp; exact .nil
  | n :: names, [], xs, h => by cases h; unfold xdF; simp; exact .nil
  | n :: names, v :: vs, xs, h => by
    cases h with
    | @cons _ _ x xs a b =>
      have ih := xdF_df (names := names) b
      have : xdF (n :: names) (x :: xs) = xdF names xs ++ [(.str n, x)] := by unfold xdF; simp
      rw [this, List.zip_cons_cons, List.reverse_cons]
      exact DfF.append ih (.cons a .nil)
def sRaise (C : Addr) (names : List Str) (u : Xd → En → Prop) (tt : TAd) : TSt := fun _ ρ => tt ρ fun as ρ1 => resFA ρ1 as fun xs => xs.length = names.length ∧ u (C, xdF names xs) ρ1
theorem LS.raise [Pn] {k : Nat} {n : Str} {names : List Str} {u : Xd → En → Prop} {tt : TAd} (hc : X.calm = true) (tk : Takes X (WD X.K u)) (M : ExMk X.prog X.w X.K X.mg X.base k n C names) (hr : Room (k + 1) X.A) (hg : Gl X n) (ha : LA X (e :: es) tt)
    (hn : names.length ≤ 1000 := by decide) (hdb : (n == ("__debug__" : Str)) = false := by decide) (he : starEach (e :: es) X.env = (false, eval e X.env) :: starEach es X.env := by rfl) (hpl : (backTo pos (starEach es X.env)).any (·.1) = false := by rfl) :
    LS X (.Raise (some (.Call (.Name n p) (e :: es) [] pos)) none pos2) (sRaise C names u tt) := by
  obtain ⟨fI, fd, h1, h2, h3, h4, h5, h6⟩ := M.ex
  refine ⟨psImp (ps_raise hc tk (pmk_oex h1 h2 h3 h4 hr h5 .nil pass0 hg h6 ha.p hdb he hpl)) fun D σ H ⟨G, ρ, F, D', R, q, k⟩ => ⟨G, ρ, F, _, R, q, fun as ρ1 vs H1 F1 q1 hl R1 s1 av => ?_⟩⟩
  obtain ⟨xs, ⟨hx, q2⟩, d⟩ := resFA_df R1 av q1
  have hv : vs.length = names.length := by rw [d.length, hx]
  refine ⟨by omega, fun a ha' => ⟨a, vs, by rw [List.append_nil], hv, h1, upd_same, fun dd H3 hd hne h3a h3d hoth => ?_⟩⟩
  have hd1 : H1 dd = none := by rw [upd_ne hne] at hd; exact hd
  refine ⟨rfl, dd, _, h3a, h3d, hd1, ?_⟩
  have eh : upd (del H3 a) dd (.xd (names.zip vs).reverse) = upd H1 dd (.xd (names.zip vs).reverse) := by
    funext b
    by_cases hb : b = dd
    · subst hb; rw [upd_same, upd_same]
    · rw [upd_ne hb, upd_ne hb]
      by_cases hba : b = a
      · subst hba; rw [del_same, ha']
      · rw [del_ne hba, hoth b hba hb, upd_ne hba]
  rw [eh]
  have g := Grow.frozen R1.fh hd1 (.xd (names.zip vs).reverse)
  exact ⟨G, ρ1, _, _, R1.grow g, ⟨rfl, .inr ⟨dd, _, rfl, upd_same, (xdF_df d).mono g.ff⟩⟩, q2⟩
end
section
variable {P : Program} {w : World} {K : PySem.W.Frag} {mg : Str → Option Value} {base : Heap} {k : Nat} {fI : Addr} {fd : FuncData} {qual f1 f2 m n : Str} {st : Stmt} {C : Addr}
def tInit (K : PySem.W.Frag) (m : Str) : TS := tDrop (tVeI K (tCons (tVar 0) (tCons (tC (.str m)) tNil)))
theorem ex_ok2 (Fn : Fun K "__init__" qual st fI fd) (Sc : FnScope ["self", f1, f2] ["self", f1, f2] (defScope st)) (T : OexC K C) (no1 : PySem.W.findIn K (.ref C) f1 = some none) (no2 : PySem.W.findIn K (.ref C) f2 = some none) (iC : PySem.W.findIn K (.ref C) "__init__" = some (some (.ref fI))) (tI : PySem.W.typeIn K (.ref fI) = some (.type "function")) (gm : mg n = some (.ref C))
    (hb : ∀ (cdv : Value) (A : Around) (outer : List PySem.Env) (s : Shared) (H : Hp) (E : XK), Room k (A.deeper (envOfC qual (defScope st) s.heap.objs.size fI cdv)) →
      PSs (cxOf CX0 P w K mg base ["self", f1, f2] qual (defScope st) fI cdv A outer s H E).nox (defBody st) (tSeq (tInit K m) (tSeq (tOst K f1 (tVar 0) (tVar 1)) (tOst K f2 (tVar 0) (tVar 2)))))
    (bi : Binds K fd ["self", f1, f2] []) : ExMk P w K mg base (k + 1) n C [f1, f2] := by
  refine ⟨fI, fd, T, iC, tI, Fn.ok Sc (fun vs H Q E h => ?_) (fun cdv A outer s H vs Q E hr h => ⟨_, hb cdv A outer s H E hr, ?_⟩), bi, gm⟩
  · obtain ⟨a, ys, rfl, hl, _⟩ := h
    simp at hl; simp [hl]
  · obtain ⟨a, ys, rfl, hl, _, ea, q⟩ := h
    match ys, hl with
    | [y, z], _ =>
      refine ⟨_, rfl, a, C, _, rfl, by simp, T, ea, _, rfl, _, rfl, a, C, rfl, T, no1, .inl ⟨ea, fun dx hd hne => ?_⟩⟩
      refine ⟨_, rfl, _, rfl, a, C, rfl, T, no2, .inr ⟨dx, _, upd_same, by rw [upd_ne hne, upd_same], by simp, ?_⟩⟩
      exact q dx _ hd hne (by rw [upd_ne (Ne.symm hne), upd_same]) (by rw [upd_same]; rfl) fun b h1 h2 => by rw [upd_ne h2, upd_ne h1, upd_ne h2]
end
end DL
namespace L2
open PySem PySem.Spec PyProof.Rows
abbrev Cls3 := Value × Option Nat × (Addr → Value → Option Addr → TS)
def Ends.gone (D : Ends) (i : Nat) : Ends := { nx := fun σ H => D.nx (σ.set i none) H, rt := D.rt, bk := fun σ H => D.bk (σ.set i none) H, ct := fun σ H => D.ct (σ.set i none) H }
def wMix (K : PySem.W.Frag) (Wout : WX) (D : Ends) : List Cls3 → WX
  | [] => Wout
  | q :: r => fun cls d σ H => ∃ b, PySem.W.exmOne K cls q.1 = some b ∧ (b = false → wMix K Wout D r cls d σ H) ∧
    (b = true → ∀ a, H a = none → match q.2.1 with
      | none => q.2.2 a cls d D σ H
      | some i => q.2.2 a cls d (D.gone i) (σ.set i (some (.ref a))) H)
inductive HdMix (X : Cx) : List ExceptHandler → List Cls3 → Prop
  | nil : HdMix X [] []
  | bare {x : Str} {c : Value} {ts : Addr → Value → Option Addr → TS} {b₀ : Stmt} {su : List Stmt} {np p' : Pos} {hs : List ExceptHandler} {l : List Cls3} (hc : Names X x c)
      (hsu : ∀ (a : Addr) (oe : Obj) (cls : Value) (d : Option Addr) (pn : List (Addr × Obj)), Zc cls d oe → (∃ vs, oe.data = .fields vs) → PSs (X.suite a ((a, oe) :: pn)) (b₀ :: su) (ts a cls d)) (r : HdMix X hs l) :
      HdMix X (.ExceptHandler (some (.Name x np)) none (b₀ :: su) p' :: hs) ((c, none, ts) :: l)
  | named {x n : Str} {i : Nat} {c : Value} {ts : Addr → Value → Option Addr → TS} {b₀ : Stmt} {su : List Stmt} {np p' : Pos} {hs : List ExceptHandler} {l : List Cls3} (hc : Names X x c) (hi : X.N[i]? = some n) (hln : X.env.kindOf n = some .local)
      (hsu : ∀ (a : Addr) (oe : Obj) (cls : Value) (d : Option Addr) (pn : List (Addr × Obj)), Zc cls d oe → (∃ vs, oe.data = .fields vs) → PSs (X.suite a ((a, oe) :: pn)) (b₀ :: su) (ts a cls d)) (r : HdMix X hs l) :
      HdMix X (.ExceptHandler (some (.Name x np)) (some n) (b₀ :: su) p' :: hs) ((c, some i, ts) :: l)
section
variable {X : Cx} {pins : List (Addr × Obj)} {σ : St} {H : Hp} {s : Shared}
theorem mix_go {Wout : WX} {D : Ends} {B : Heap} {sI : Shared} {a : Addr} {cls : Value} {d : Option Addr} (ok : X.Ok) (hs : X.stack = X.env :: X.outer) (hf : X.env.frame = some X.env.locals) (hN : X.N.Nodup) (tk : Takes X Wout) (J : Inv X pins σ H sI)
    (nb : ∀ b o, sI.heap.get? b = some o → b ∉ frs X.stack → B.get? b = some o) (up : sI.heap.UpToSlots s.heap) (os : s.os = sI.os) (ag : AllBare s.gens) (na : H a = none) (nL : a ≠ X.env.locals) (nF : a ∉ X.fs) (fl : HandSPX.FlyingZ B (X.env :: X.outer) a (Zc cls d) s.heap) :
    ∀ {hs' : List ExceptHandler} {l : List Cls3}, HdMix X hs' l → wMix X.K Wout D l cls d σ H → wpAny (model X.prog X.w) X.A (handleBy (.ref a) X.env hs') (SP X pins D) X.xe s := by
  have J3 : Inv X pins σ H s := J.landed nb fl.1 up os ag
  obtain ⟨oe, vs, he, hz, hd⟩ := fl.there
  have S3 := J3.suite he hd na nL nF
  have LT : PySem.W.Looks (model X.prog X.w) s.heap (typeOf (.ref a)) cls := fun A Q E s k q => wpAny_typeOf_ref (k _ _ he) (by rw [hz.1]; exact q)
  have test : ∀ {x : Str} {c : Value} {np : Pos}, Names X x c → ∀ {Q E : Value → Shared → Prop}, Q c s → wpAny (model X.prog X.w) (X.A.mark (some (.ref a))) (eval (.Name x np) X.env) Q E s := by
    intro x c np hc Q E q
    obtain ⟨hg, hdbg, hm | ⟨hm, hv, hnn⟩⟩ := hc
    · exact ld_glob (X := X.suite a ((a, oe) :: (X.pn ++ pins))) S3 hg hm q hdbg
    · exact ld_blt (X := X.suite a ((a, oe) :: (X.pn ++ pins))) S3 hg hm hv q hnn hdbg
  intro hs' l hk
  induction hk with
  | nil =>
    intro w
    obtain ⟨_, _, _, oe2, vs2, T, _, _, he2, _, hd2, h1, _⟩ := id fl
    refine wpAny_handleBy_nil ?_
    unfold PySem.passOn
    refine wpAny_bind (wpAny_field he2 hd2 h1 ?_)
    have nn : ¬ ((Value.ref T == Value.none) = true) := by simp
    have out : wpAny (model X.prog X.w) X.A (setFlight (.ref a) X.env.frame) (fun _ s4 => wpAny (model X.prog X.w) X.A (throw (.ref a) : Sem Flow) (SP X pins D) X.xe s4) X.xe s := by
      rw [hf]
      refine HandSPX.setFlight_upZ fl fun h4 hh4 up4 => wpAny_throw (tk _ _ ⟨a, B, sI, pins, σ, H, cls, d, rfl, J, nb, up.trans up4, .inr (.inr ?_), na, os, ag, w⟩)
      rw [hs]; exact hh4
    rw [if_neg nn]
    first | exact wpAny_bind (wpAny_pure (wpAny_bind out)) | exact wpAny_bind out
  | @bare x c ts b₀ su np p' hs2 l2 hc hsu r ih =>
    intro w
    obtain ⟨b, hb1, hno, hyes⟩ := w
    refine wpAny_handleBy_cons (codeAny_handlers_test (test hc ((PySem.W.exm_one (M := model X.prog X.w) J3.kIn LT hb1).here ?_))) (by intro q; cases q)
    cases b with
    | false => exact ih (hno rfl)
    | true =>
      refine codeAny_handlers_suite (HandSPX.lands_againZ fl fun h4 fl4 up4 => ?_)
      have J4 : Inv X pins σ H { s with heap := h4 } := J.landed nb fl4.1 (up.trans up4) os ag
      obtain ⟨oe4, vs4, he4, hz4, hd4⟩ := fl4.there
      refine wpAny_mono ((hsu a oe4 cls d (X.pn ++ pins) hz4 ⟨_, hd4⟩).run [] _ _ H _ (J4.suite he4 hd4 na nL nF) (hyes rfl a na)) (fun f s6 hsp => ?_) (fun _ _ z => z.elim)
      cases f with
      | ret u => obtain ⟨v6, σ6, H6, S6, r6, q6⟩ := hsp; exact ⟨_, _, _, S6.unsuite ok, r6, q6⟩
      | _ => obtain ⟨σ6, H6, S6, q6⟩ := hsp; exact ⟨_, _, S6.unsuite ok, q6⟩
  | @named x n i c ts b₀ su np p' hs2 l2 hc hi hln hsu r ih =>
    intro w
    obtain ⟨b, hb1, hno, hyes⟩ := w
    refine wpAny_handleBy_cons (codeAny_handlers_test (test hc ((PySem.W.exm_one (M := model X.prog X.w) J3.kIn LT hb1).here ?_))) (by intro q; cases q)
    cases b with
    | false => exact ih (hno rfl)
    | true =>
      refine codeAny_handlers_suite_as (HandSPX.lands_againZ fl fun h4 fl4 up4 => ?_)
      have J4 : Inv X pins σ H { s with heap := h4 } := J.landed nb fl4.1 (up.trans up4) os ag
      obtain ⟨oe4, vs4, he4, hz4, hd4⟩ := fl4.there
      refine store_ok (X := X.suite a ((a, oe4) :: (X.pn ++ pins))) (v := .ref a) (J4.suite he4 hd4 na nL nF) hN hi (.inl hln) rfl (fun s5 S5 => ?_) (.inr hln)
      refine wpAny_mono ((hsu a oe4 cls d (X.pn ++ pins) hz4 ⟨_, hd4⟩).run [] s5 _ H _ S5 (hyes rfl a na)) (fun f s6 hsp => ?_) (fun _ _ z => z.elim)
      cases f with
      | ret u => obtain ⟨v6, σ6, H6, S6, r6, q6⟩ := hsp; exact gone_ok (S6.unsuite ok) hN hi hln fun s7 J7 => ⟨_, _, _, J7, r6, q6⟩
      | _ => obtain ⟨σ6, H6, S6, q6⟩ := hsp; exact gone_ok (S6.unsuite ok) hN hi hln fun s7 J7 => ⟨_, _, J7, q6⟩
theorem ps_try_mix {body : List Stmt} {h₀ : ExceptHandler} {hds : List ExceptHandler} {l : List Cls3} {pos : Pos} {tb : WX → TS} {Wout : WX} (hs : X.stack = X.env :: X.outer) (hf : X.env.frame = some X.env.locals) (hN : X.N.Nodup) (tk : Takes X Wout)
    (hb : ∀ (W : WX) (pn : List (Addr × Obj)) (xe : Value → Shared → Prop), Takes (X.tr pn xe) W → PassesOwn (model X.prog X.w) X.A X.env xe → PSs (X.tr pn xe) body (tb W))
    (hh : HdMix X (h₀ :: hds) l) : PS X (.Try body (h₀ :: hds) [] [] pos) (fun D σ H => tb (wMix X.K Wout D l) D σ H) := by
  refine ⟨fun pins s σ H D I h => wpAny_Try_except ?_⟩
  have ok := I.ok
  have hfr : X.A.frames = some (X.env :: X.outer) := by rw [ok.frames, hs]
  refine wpAny_mono ((hb (wMix X.K Wout D l) (X.pn ++ pins) (fun e s₁ => wpAny (model X.prog X.w) X.A (noteFrame e X.env) (fun _ s₂ => wpAny (model X.prog X.w) X.A (setFlight e none) (fun _ s₃ =>
    wpAny (model X.prog X.w) X.A (handleBy e X.env (h₀ :: hds)) (SP X pins D) X.xe s₃) X.xe s₂) X.xe s₁) (fun u s' xx => ?_) PassesOwn.looking).run [] s σ H D (I.toTry _) h) (fun f s1 hsp => ?_) (fun e s1 he => he)
  · obtain ⟨a, B, sI, pins', σ', H', cls, d, rfl, J', nb, up, sky, na, os, ag, w⟩ := xx
    have J : Inv X pins σ' H' sI := J'.ofTry ok
    have sky' : Sky B (X.env :: X.outer) a (Zc cls d) X.env.locals s'.heap := by rw [← hs]; exact sky
    refine Sky.land Zc.steady hfr hf sky' fun h3 fl3 up3 => ?_
    obtain ⟨oe3, vs3, he3, hz3, hd3⟩ := fl3.there
    have nfr : a ∉ frs (X.env :: X.outer) := fun hm => by
      obtain ⟨_, o', e', hnf⟩ := Heap.FunFrames.mem fl3.2.2.1 hm
      rw [he3] at e'; cases e'
      exact hnf _ hd3
    refine mix_go (s := { s' with heap := h3 }) ok hs hf hN tk J nb (up.trans up3) os ag na (fun z => nfr (List.mem_filterMap.mpr ⟨X.env, List.mem_cons_self, by rw [hf, z]⟩)) (fun hm => ?_) fl3 hh w
    obtain ⟨e, he, q⟩ := List.mem_filterMap.mp hm
    exact nfr (List.mem_filterMap.mpr ⟨e, List.mem_cons_of_mem _ he, q⟩)
  · cases f with
    | ret u => obtain ⟨v, σ', H', J', r, q⟩ := hsp; exact ⟨v, σ', H', J'.ofTry ok, r, q⟩
    | next => obtain ⟨σ', H', J', q⟩ := hsp; exact wpAny_execs_nil ⟨σ', H', J'.ofTry ok, q⟩
    | brk => obtain ⟨σ', H', J', q⟩ := hsp; exact ⟨σ', H', J'.ofTry ok, q⟩
    | cont => obtain ⟨σ', H', J', q⟩ := hsp; exact ⟨σ', H', J'.ofTry ok, q⟩
end
end L2
namespace DL
open PySem L2 PyProof.Rows
def excV (a : Addr) : Option Addr → Xd → PD
  | none, x => .dict [(.bool true, .int (x.1 : Int)), (.bool true, .int (a : Int)), (.bool true, .none)]
  | some dd, x => .dict ((.bool true, .int (x.1 : Int)) :: (.bool true, .int (a : Int)) :: (.bool true, .int (dd : Int)) :: x.2)
theorem XcOk.df {K : PySem.W.Frag} {F : Hp} {x : Xd} {cls : Value} {d : Option Addr} (h : XcOk K F x cls d) (a : Addr) : Df K F (.ref a) (excV a d x) ∧ (d = none → x.2 = []) := by
  obtain ⟨_, ⟨rfl, h⟩ | ⟨dd, us, rfl, h1, h2⟩⟩ := h
  · exact ⟨.ex0, fun _ => h⟩
  · exact ⟨.ex1 h1 h2, fun z => by cases z⟩
theorem dict_keys {K : PySem.W.Frag} {F : Hp} : ∀ {kvs : List (Key × V)} {es : List (PD × PD)}, DfK K F kvs es → ∀ {b : Bool} {y : PD} {r : List (PD × PD)}, es ≠ (.bool b, y) :: r
  | _, _, .nil, b, y, r => by simp
  | (k, v) :: vs, _, .cons _ _, b, y, r => by cases k <;> simp [keyD]
theorem exc_inv {K : PySem.W.Frag} {F : Hp} {v : V} {a : Addr} {d : Option Addr} {x : Xd} (h : Df K F v (excV a d x)) : v = .ref a ∧ (d = none ∨ ∃ dd us, d = some dd ∧ F dd = some (.xd us) ∧ DfF K F us x.2) := by
  cases d with
  | none =>
    unfold excV at h
    cases h with
    | dk _ h2 => exact absurd rfl (dict_keys h2)
    | ex0 => exact ⟨rfl, .inl rfl⟩
  | some dd =>
    unfold excV at h
    cases h with
    | dk _ h2 => exact absurd rfl (dict_keys h2)
    | ex1 h1 h2 => exact ⟨rfl, .inr ⟨_, _, rfl, h1, h2⟩⟩
def DE.gone (D : DE) (i : Nat) : DE := { nx := fun ρ => D.nx (ρ.set i none), rt := D.rt, bk := fun ρ => D.bk (ρ.set i none), ct := fun ρ => D.ct (ρ.set i none) }
structure Hd3 where
  subs : List (Addr × Bool)
  slot : Option Nat
  ts : Addr → Addr → Option Addr → TSt
def uMix (D : DE) : List Hd3 → Xd → En → Prop
  | [], _, _ => False
  | q :: r, x, ρ => ∃ b, (x.1, b) ∈ q.subs ∧ (b = false → uMix D r x ρ) ∧ (b = true → ∀ a d, (d = none → x.2 = []) → match q.slot with
      | none => q.ts a x.1 d D ρ
      | some i => q.ts a x.1 d (D.gone i) (ρ.set i (some (.d (excV a d x)))))
def sTry (tb : (Xd → En → Prop) → TSt) (l : List Hd3) : TSt := fun D ρ => tb (uMix D l) D ρ
inductive LHd (X : Cx) : List ExceptHandler → List Hd3 → List Value → Prop
  | nil : LHd X [] [] []
  | bare {x : Str} {c : Value} {subs : List (Addr × Bool)} {ts : Addr → Addr → Option Addr → TSt} {b₀ : Stmt} {su : List Stmt} {np p' : Pos} {hs : List ExceptHandler} {l : List Hd3} {cs : List Value} (hc : Names X x c) (hsub : ∀ p ∈ subs, PySem.W.exmOne X.K (.ref p.1) c = some p.2)
      (hsu : ∀ [Pn] (a : Addr) (oe : Obj) (C : Addr) (d : Option Addr) (pn : List (Addr × Obj)), Zc (.ref C) d oe → (∃ vs, oe.data = .fields vs) → LSs (X.suite a ((a, oe) :: pn)) (b₀ :: su) (ts a C d)) (r : LHd X hs l cs) :
      LHd X (.ExceptHandler (some (.Name x np)) none (b₀ :: su) p' :: hs) (⟨subs, none, ts⟩ :: l) (c :: cs)
  | named {x n : Str} {i : Nat} {c : Value} {subs : List (Addr × Bool)} {ts : Addr → Addr → Option Addr → TSt} {b₀ : Stmt} {su : List Stmt} {np p' : Pos} {hs : List ExceptHandler} {l : List Hd3} {cs : List Value} (hc : Names X x c) (hsub : ∀ p ∈ subs, PySem.W.exmOne X.K (.ref p.1) c = some p.2)
      (hi : X.N[i]? = some n) (hln : X.env.kindOf n = some .local)
      (hsu : ∀ [Pn] (a : Addr) (oe : Obj) (C : Addr) (d : Option Addr) (pn : List (Addr × Obj)), Zc (.ref C) d oe → (∃ vs, oe.data = .fields vs) → LSs (X.suite a ((a, oe) :: pn)) (b₀ :: su) (ts a C d)) (r : LHd X hs l cs) :
      LHd X (.ExceptHandler (some (.Name x np)) (some n) (b₀ :: su) p' :: hs) (⟨subs, some i, ts⟩ :: l) (c :: cs)
def tSu (K : PySem.W.Frag) (ts : Addr → Addr → Option Addr → TSt) : Addr → Value → Option Addr → TS := fun a cls d D σ H => ∃ (P : Pn) (C : Addr), cls = .ref C ∧ @liftS P K (ts a C d) D σ H
def cl3 (K : PySem.W.Frag) : List Hd3 → List Value → List Cls3
  | q :: r, c :: cs => (c, q.slot, tSu K q.ts) :: cl3 K r cs
  | _, _ => []
theorem LHd.mix {X : Cx} {hs : List ExceptHandler} {l : List Hd3} {cs : List Value} (h : LHd X hs l cs) : HdMix X hs (cl3 X.K l cs) := by
  induction h with
  | nil => exact .nil
  | bare hc hsub hsu r ih =>
    refine .bare hc (fun a oe cls d pn hz hf => ⟨fun pins s σ H D I h => ?_⟩) ih
    obtain ⟨P, C, rfl, h⟩ := h
    exact (@hsu P a oe C d pn hz hf).p.run pins s σ H D I h
  | named hc hsub hi hln hsu r ih =>
    refine .named hc hi hln (fun a oe cls d pn hz hf => ⟨fun pins s σ H D I h => ?_⟩) ih
    obtain ⟨P, C, rfl, h⟩ := h
    exact (@hsu P a oe C d pn hz hf).p.run pins s σ H D I h
section
variable {K : PySem.W.Frag} {G : Gm} {ρ : En} {σ : L2.St} {F F' H H' : Hp}
def Gm.now (G : Gm) (F : Hp) : Gm := { G with F0 := F }
theorem slot_now {l : Lc} {F0 : Hp} {s : Option (Option V)} : SlotOk K (G.now F0) F H l s ↔ SlotOk K G F H l s := by
  have ow : ∀ {t : Option Nat} {a : Addr}, OwnP (G.now F0) t a ↔ OwnP G t a := fun {t a} => by cases t <;> exact Iff.rfl
  cases hl : l.own with
  | true =>
    rw [own_slot hl, own_slot hl]
    exact ⟨fun ⟨a, e, z⟩ => ⟨a, e, z.nf, ow.mp z.ow, z.ob⟩, fun ⟨a, e, z⟩ => ⟨a, e, z.nf, ow.mpr z.ow, z.ob⟩⟩
  | false =>
    rcases not_own hl with ⟨x, rfl⟩ | ⟨v, rfl⟩
    · exact Iff.rfl
    · exact Iff.rfl
theorem ns_now {F0 : Hp} {t : Option Nat} {b : Addr} {xs : List PD} : Ns K (G.now F0) F H t b xs ↔ Ns K G F H t b xs := ⟨fun z => ⟨z.nf, z.ow, z.ob⟩, fun z => ⟨z.nf, z.ow, z.ob⟩⟩
theorem frs_now {l : Lc} {F0 : Hp} {a : Addr} : Frs K (G.now F0) F H ρ σ l a ↔ Frs K G F H ρ σ l a := ⟨fun z => ⟨z.hf, z.hn, fun b xs hb => ⟨ns_now.mp (z.ns b xs hb).1, (z.ns b xs hb).2⟩⟩, fun z => ⟨z.hf, z.hn, fun b xs hb => ⟨ns_now.mpr (z.ns b xs hb).1, (z.ns b xs hb).2⟩⟩⟩
theorem rs_now {l : Lc} {F0 : Hp} {v : V} : RsOk K (G.now F0) F H ρ σ l v ↔ RsOk K G F H ρ σ l v := by
  have ow : ∀ {t : Option Nat} {a : Addr}, OwnP (G.now F0) t a ↔ OwnP G t a := fun {t a} => by cases t <;> exact Iff.rfl
  cases hl : l.own with
  | true =>
    rw [RsOk.ref_own hl, RsOk.ref_own hl]
    exact ⟨fun ⟨a, e, t, z, q⟩ => ⟨a, e, t, ⟨z.nf, ow.mp z.ow, z.ob⟩, frs_now.mp q⟩, fun ⟨a, e, t, z, q⟩ => ⟨a, e, t, ⟨z.nf, ow.mpr z.ow, z.ob⟩, frs_now.mpr q⟩⟩
  | false =>
    rcases not_own hl with ⟨x, rfl⟩ | ⟨v, rfl⟩
    · exact Iff.rfl
    · exact Iff.rfl
theorem Rel.toNow {P : Pn} (R : @Rel P K G ρ F σ H) : @Rel (Pn.at_ (G.now F)) K (G.now F) ρ F σ H :=
  @Rel.mk (Pn.at_ (G.now F)) _ _ _ _ _ _ R.fh (Same.refl _) R.fr (fun b h1 h2 => absurd h2 h1) R.ih R.len (fun i l e => slot_now.mpr (R.sl i l e)) R.ds Pins.refl (fun i l b xs e h => ⟨ns_now.mpr (R.ns i l b xs e h).1, (R.ns i l b xs e h).2⟩)
theorem now_ff {P : Pn} {ρ' : En} {σ' : L2.St} (R' : @Rel P K (G.now F) ρ' F' σ' H') : Same F F' := R'.ff
theorem now_nw {P : Pn} {ρ' : En} {σ' : L2.St} (R' : @Rel P K (G.now F) ρ' F' σ' H') : (∀ b, F' b ≠ none → F b = none → G.H0 b = none ∨ ∃ us, F' b = some (.tup us)) ∧ Same F' H' ∧ (∀ b o, G.H0 b = some o → b ∉ G.io → H' b = some o) ∧ (∀ a, a ∈ G.io → H' a ≠ none ∧ G.H0 a ≠ none) ∧ σ'.length = ρ'.length ∧
    (∀ (i : Nat) (l : Lc), ρ'[i]? = some (some l) → SlotOk K G F' H' l σ'[i]?) ∧ (∀ (i j : Nat) (l m : Lc) (v : V), ρ'[i]? = some (some l) → ρ'[j]? = some (some m) → l.own = true → m.own = true → σ'[i]? = some (some v) → σ'[j]? = some (some v) → i = j) ∧ ∀ (i : Nat) (l : Lc) (b : Addr) (xs : List PD), ρ'[i]? = some (some l) → (b, xs) ∈ l.fp → Ns K G F' H' l.tag b xs ∧ ∀ (j : Nat) (m : Lc), ρ'[j]? = some (some m) → (m.own = true → σ'[j]? ≠ some (some (.ref b))) ∧ ∀ ys, (b, ys) ∈ m.fp → j = i :=
  ⟨R'.nw, R'.fh, R'.fr, R'.ih, R'.len, fun i l e => slot_now.mp (R'.sl i l e), R'.ds, fun i l b xs e h => ⟨ns_now.mp (R'.ns i l b xs e h).1, (R'.ns i l b xs e h).2⟩⟩
theorem now_back [Pn] {ρ' : En} {σ' : L2.St} (R : Rel K G ρ F σ H) (sf : Same F F') (h : (∀ b, F' b ≠ none → F b = none → G.H0 b = none ∨ ∃ us, F' b = some (.tup us)) ∧ Same F' H' ∧ (∀ b o, G.H0 b = some o → b ∉ G.io → H' b = some o) ∧ (∀ a, a ∈ G.io → H' a ≠ none ∧ G.H0 a ≠ none) ∧ σ'.length = ρ'.length ∧
    (∀ (i : Nat) (l : Lc), ρ'[i]? = some (some l) → SlotOk K G F' H' l σ'[i]?) ∧ (∀ (i j : Nat) (l m : Lc) (v : V), ρ'[i]? = some (some l) → ρ'[j]? = some (some m) → l.own = true → m.own = true → σ'[i]? = some (some v) → σ'[j]? = some (some v) → i = j) ∧ ∀ (i : Nat) (l : Lc) (b : Addr) (xs : List PD), ρ'[i]? = some (some l) → (b, xs) ∈ l.fp → Ns K G F' H' l.tag b xs ∧ ∀ (j : Nat) (m : Lc), ρ'[j]? = some (some m) → (m.own = true → σ'[j]? ≠ some (some (.ref b))) ∧ ∀ ys, (b, ys) ∈ m.fp → j = i) : Rel K G ρ' F' σ' H' := by
  obtain ⟨h1, h2, h3, h4, h5, h6, h7, h8⟩ := h
  refine ⟨h2, R.ff.trans sf, h3, fun b q1 q2 => ?_, h4, h5, h6, h7, R.ok, h8⟩
  cases e : F b with
  | none => exact h1 b q1 e
  | some u =>
    rcases R.nw b (by rw [e]; simp) q2 with z | ⟨us, z⟩
    · exact .inl z
    · exact .inr ⟨us, sf _ _ z⟩
theorem Rel.ofNow {P P' : Pn} {ρ' : En} {σ' : L2.St} (R : @Rel P K G ρ F σ H) (R' : @Rel P' K (G.now F) ρ' F' σ' H') : @Rel P K G ρ' F' σ' H' ∧ Same F F' :=
  ⟨@now_back _ _ _ _ _ _ _ _ P _ _ R (now_ff R') (now_nw R'), now_ff R'⟩
theorem Rel.rootN {G0 G' : Gm} {P : Pn} (R : @Rel P K G ρ F σ H) {ρ' : En} {σ' : L2.St} (R' : @Rel (Pn.at_ (G.now F)) K G' ρ' F' σ' H') : @Rel P K G ρ' F' σ' H' ∧ Same F F' :=
  R.ofNow (Rel.root (@Rel.ok (Pn.at_ (G.now F)) _ _ _ _ _ _ R') R')
theorem Rel.gone [Pn] (R : Rel K G ρ F σ H) (i : Nat) : Rel K G (ρ.set i none) F (σ.set i none) H := by
  refine R.weak (by rw [List.length_set, List.length_set]; exact R.len) fun j l e => ?_
  rcases set_get e with ⟨_, _, z⟩ | ⟨hj, e⟩
  · cases z
  · exact ⟨e, List.getElem?_set_ne (Ne.symm hj)⟩
theorem CtOk.toNow {P : Pn} {D' : DE} {D : Ends} (R : @Rel P K G ρ F σ H) (k : @CtOk P K G F D' D) : @CtOk (Pn.at_ (G.now F)) K (G.now F) F D' D :=
  @CtOk.mk (Pn.at_ (G.now F)) _ _ _ _ _ (fun ρ σ H F' h R' s => @CtOk.nx P _ _ _ _ _ k _ _ _ _ h (R.ofNow R').1 s) (fun l ρ v σ H F' h R' s r => @CtOk.rt P _ _ _ _ _ k _ _ _ _ _ _ h (R.ofNow R').1 s (rs_now.mp r)) (fun ρ σ H F' h R' s => @CtOk.bk P _ _ _ _ _ k _ _ _ _ h (R.ofNow R').1 s) fun ρ σ H F' h R' s => @CtOk.ct P _ _ _ _ _ k _ _ _ _ h (R.ofNow R').1 s
theorem CtOk.gone [Pn] {D' : DE} {D : Ends} (k : CtOk K G F D' D) (i : Nat) : CtOk K G F (D'.gone i) (D.gone i) :=
  ⟨fun ρ σ H F' h R s => k.nx _ _ _ _ h (R.gone i) s, k.rt, fun ρ σ H F' h R s => k.bk _ _ _ _ h (R.gone i) s, fun ρ σ H F' h R s => k.ct _ _ _ _ h (R.gone i) s⟩
end
theorem wMix_of {X : Cx} {G : Gm} {F : Hp} {D' : DE} {D : Ends} [Pn] (k : CtOk X.K G F D' D) {x : Xd} {cls : Value} {d : Option Addr} {ρ : En} {σ : L2.St} {H : Hp} (R : Rel X.K G ρ F σ H) (xc : XcOk X.K F x cls d) :
    ∀ {hs : List ExceptHandler} {l : List Hd3} {cs : List Value}, LHd X hs l cs → uMix D' l x ρ → wMix X.K (fun _ _ _ _ => False) D (cl3 X.K l cs) cls d σ H := by
  intro hs l cs h
  induction h with
  | nil => exact fun z => z.elim
  | bare hc hsub hsu r ih =>
    rintro ⟨b, hb, h1, h2⟩
    refine ⟨b, by rw [xc.1]; exact hsub _ hb, fun z => ih (h1 z), fun z a ha => ?_⟩
    have := h2 z a d (xc.df a).2
    exact ⟨_, x.1, xc.1, G, ρ, F, D', R, this, k⟩
  | @named _ _ i _ _ _ _ _ _ _ _ _ _ hc hsub hi hln hsu r ih =>
    rintro ⟨b, hb, h1, h2⟩
    refine ⟨b, by rw [xc.1]; exact hsub _ hb, fun z => ih (h1 z), fun z a ha => ?_⟩
    have := h2 z a d (xc.df a).2
    exact ⟨_, x.1, xc.1, G, ρ.set i (some (.d (excV a d x))), F, D'.gone i, R.store_d i (xc.df a).1, this, k.gone i⟩
theorem LS.try_ [Pn] {X : Cx} {body : List Stmt} {h₀ : ExceptHandler} {hds : List ExceptHandler} {l : List Hd3} {cs : List Value} {pos : Pos} {tb : (Xd → En → Prop) → TSt} (hs : X.stack = X.env :: X.outer) (hf : X.env.frame = some X.env.locals) (hN : X.N.Nodup)
    (hb : ∀ [Pn] (u : Xd → En → Prop) (pn : List (Addr × Obj)) (xe : Value → Shared → Prop), Takes (X.tr pn xe) (WD X.K u) → PassesOwn (model X.prog X.w) X.A X.env xe → LSs (X.tr pn xe) body (tb u))
    (hh : LHd X (h₀ :: hds) l cs) : LS X (.Try body (h₀ :: hds) [] [] pos) (sTry tb l) := by
  refine ⟨psImp (ps_try_mix (tb := fun W D σ H => ∃ (P : Pn) (u : Xd → En → Prop), (∀ cls d σ H, @WD P X.K u cls d σ H → W cls d σ H) ∧ @liftS P X.K (tb u) D σ H) (Wout := fun _ _ _ _ => False) hs hf hN takes_none5
    (fun W pn xe tk hp => ⟨fun pins s σ H D I h => ?_⟩) hh.mix) fun D σ H h => ?_⟩
  · obtain ⟨P, u, hw, h⟩ := h
    exact (@hb P u pn xe (tk.imp hw) hp).p.run pins s σ H D I h
  · obtain ⟨G, ρ, F, D', R, q, k⟩ := h
    refine ⟨Pn.at_ (G.now F), uMix D' l, ?_, G.now F, ρ, F, D', R.toNow, q, k.toNow R⟩
    rintro cls d σ1 H1 ⟨G', ρ1, F1, x, R', xc, hu⟩
    obtain ⟨R1, s1⟩ := Rel.rootN (G0 := G) R R'
    exact wMix_of (k.mono s1) R1 xc hh hu
end DL
namespace PySem.W
open PySem PySem.Spec PySem.Calls PyProof.Rows
section
variable {prog : Program} {w : World} {A : Around} {E : Value → Shared → Prop} {K : Frag} {x D : Addr} {ox : Obj} {od : Option Obj}
theorem cls_found (hd : (clsIn K D).isSome = true) (ha : findIn K (.ref D) "__class__" = some (some (.builtin "object.__class__"))) (hn : specialIn K (.builtin "object.__class__") "__get__" = some (some (.builtin "getset_descriptor.__get__")))
    (ht : takesIn K (.builtin "object.__class__") = some true) : findObj K D od "__class__" = some (.bind (.builtin "getset_descriptor.__get__") (.builtin "object.__class__")) := by
  obtain ⟨cd, hc⟩ := Option.isSome_iff_exists.mp hd
  simp only [findObj, hc, ha, hn, ht, Option.bind_some]
theorem exc_class {Q : Option Value → Shared → Prop} {s : Shared} (T : L2.ExcC K D) (X : K.In s.heap) (I : InstAt s.heap x ox D od) (h : Q (some (.ref D)) { s with toks := s.toks + 1 }) : wpAny (model prog w) A (getAttr? (.ref x) "__class__") Q E s := by
  obtain ⟨cd, hcd, _⟩ := any_some T.hd
  have f0 := cls_found (od := od) (by rw [hcd]; rfl) T.ha T.hn T.ht
  obtain ⟨hp, g, dr, t, os⟩ := s
  have ty := I.type (M := model prog w)
  have isx : Looks (model prog w) hp (isInstance (.ref x) (.type "BaseException")) true := ty.andThen (looks_subIn X T.hs)
  have look := looks_find (M := model prog w) X I f0
  have o2 : (Value.builtin "BaseException.__getattribute__" == Value.builtin "object.__getattribute__") = false := by decide +kernel
  have other : (onTheHeap (Value.ref D) && Value.builtin "BaseException.__getattribute__" == Value.builtin "object.__getattribute__") = false := by rw [o2, Bool.and_false]
  unfold getAttr? getAttrBy? getAttrBy
  refine wpAny_bind (wpAny_mkText (wpAny_bind (wpAny_attempt (wpAny_holding (wpAny_bind (ty.at (wpAny_bind ((looks_findIn X T.hg).at ?_))))))))
  show wpAny _ _ (ite (_ = true) _ _) _ _ _
  rw [other, if_neg (by decide)]
  unfold getAttrByItsOwn hookBefore
  refine wpAny_bind ?_
  rw [if_pos (show onTheHeap (Value.ref D) = true from rfl)]
  refine (looks_findIn X T.hk).at (wpAny_bind (wpAny_attempt (wpAny_holding ?_)))
  unfold callGetattribute
  rw [if_neg (show ¬ ((false && onTheHeap (Value.builtin "BaseException.__getattribute__")) = true) by decide)]
  unfold boundAndCalled
  rw [PySem.F.excAttr_ValueError.ga.bind (.ref x)]
  refine wpAny_bind (wpAny_pure (wpAny_call (codeAny_call_builtin PySem.F.excAttr_ValueError.ga.plain PySem.F.entry_bexc_ga ?_)))
  refine @check_slot (model prog w) _ _ ⟨hp, g, dr, t + 1, os⟩ "BaseException.__getattribute__" "BaseException" "__getattribute__" (.ref x) [.str "__class__" t] [] _ (by decide +kernel) (by decide +kernel) isx (PySem.F.args_bexc_ga _ _) ?_
  unfold Builtin.«object.__getattribute__»
  refine wpAny_bind (wpAny_of_eq (a := ((Value.ref x : Value), [Value.str "__class__" t])) (by first | rfl | (simp only [slotArgs]; rfl)) (wpAny_bind (wpAny_pure (wpAny_bind (ty.at (wpAny_bind (look.at ?_)))))))
  refine wpAny_bind (wpAny_holding (wpAny_call (class_get (s := ⟨hp, g, dr, t + 1, os⟩) (ox := ox) (od := od) X I T.hm ?_)))
  refine wpAny_pure ?_
  show wpAny _ _ (handedOut (.ref D)) _ _ _
  rw [handedOut_of (v := .ref D) rfl]
  first
    | exact wpAny_pure (wpAny_pure h)
    | exact wpAny_pure h
    | exact wpAny_pure (wpAny_bind (wpAny_pure (wpAny_pure h)))
theorem exc_kit (T : L2.ExcC K D) : KitX K (.ref x) (.ref D) (fun h => InstAt h x ox D od) := by
  obtain ⟨cd, hcd, _⟩ := any_some T.hd
  unfold clsIn at hcd
  split at hcd
  · rename_i c' d' cd' sl' ho
    refine ⟨fun _ _ _ I => I.type, fun _ _ X _ => ?_, fun h tp dd its n sl X htp => ?_, fun X I k => exc_class T X I k⟩
    · intro A' Q' E' s' k q
      exact wpAny_bind (wpAny_loadPart (k _ _ (X _ _ ho)) (wpAny_pure q))
    · refine Bool.eq_false_iff.mpr fun q => ?_
      obtain rfl : D = tp := Value.ref.inj (beq_iff_eq.mp q)
      cases (X _ _ ho).symm.trans htp
  · cases hcd
end
end PySem.W
namespace DL
open PySem L2 PyProof.Rows StX PySem.Spec
section
variable {X : Cx} {a C C0 : Addr} {d : Option Addr} {oe : Obj} {pn : List (Addr × Obj)} {e e2 : Expr} {pos p : Pos} {i : Nat} {f : Str} {b : Bool} {c : V} {cv : Value}
def dXf (C0 : Addr) (a C : Addr) (d : Option Addr) (i : Nat) (f : Str) : TD := fun ρ Q => match ρ[i]? with
  | some (some (.d v)) => C = C0 ∧ ∃ x y, v = excV a d (C, x) ∧ (d = none → x = []) ∧ fldP x f = some y ∧ Q y ρ
  | _ => False
theorem LD.xf [Pn] (T : XfC X.K C0) (hno : PySem.W.findIn X.K (.ref C0) f = some none) (hz : Zc (.ref C) d oe) (hf : ∃ vs, oe.data = .fields vs) (he : PE (X.suite a ((a, oe) :: pn)) e (tVar i)) (hb : attributeBase e f X.env (eval e X.env) = eval e X.env := by rfl) :
    LD (X.suite a ((a, oe) :: pn)) (.Attribute e f pos) (dXf C0 a C d i f) := by
  by_cases hC : C = C0
  · subst hC
    refine ⟨peImp (pe_xf T hno hz hf he hb) fun σ H Q ⟨G, ρ, F, Q', R, q, k⟩ => ?_⟩
    unfold dXf at q
    split at q
    · rename_i v er
      obtain ⟨_, x, y, rfl, hd, hy, q⟩ := q
      obtain ⟨u, eu, du⟩ := R.sl i _ er
      obtain ⟨rfl, hx⟩ := exc_inv du
      rcases hx with rfl | ⟨dd, us, rfl, h1, h2⟩
      · rw [hd rfl] at hy; cases hy
      · obtain ⟨w, hw, dw⟩ := fld_df h2 hy
        exact ⟨_, eu, rfl, rfl, dd, us, w, rfl, R.fh _ _ h1, hw, k _ _ _ _ _ q R (Same.refl _) dw⟩
    · exact False.elim q
  · refine ⟨⟨fun pins s σ H Q I ⟨G, ρ, F, Q', R, q, k⟩ => ?_⟩⟩
    unfold dXf at q
    split at q
    · exact absurd q.1 hC
    · exact False.elim q
def dXi (C0 : Addr) (b : Bool) (a C : Addr) (d : Option Addr) (i : Nat) : TD := fun ρ Q => match ρ[i]? with
  | some (some (.d v)) => C = C0 ∧ ∃ x, v = excV a d (C, x) ∧ Q (.bool b) ρ
  | _ => False
def rIsD (K : PySem.W.Frag) (D a : Addr) (d : Option Addr) : List V → Hp → VK → Prop := fun xs H Q => ∃ (c : V) (cv : Value) (b : Bool), xs = [.ref a, c] ∧ (∀ u, RelV c u → u = cv) ∧ PySem.W.kitOne K (.ref D) cv = some b ∧ (d = none ∨ ∃ dd us, d = some dd ∧ H dd = some (.xd us)) ∧ Q (.bl b) H
theorem call_isD (T : ExcC X.K C) (hz : Zc (.ref C) d oe) (hf : ∃ vs, oe.data = .fields vs) : CallR (X.suite a ((a, oe) :: pn)) (.builtin "isinstance") (rIsD X.K C a d) := by
  intro pins s σ H xs us Q I r h
  obtain ⟨c, cv, b, rfl, hcv, e, hd, q⟩ := h
  cases r with | cons rx rr => cases rr with | cons rt rr =>
    cases rr
    cases rx
    obtain rfl := hcv _ rt
    obtain ⟨hget, _⟩ := I.pin (a, oe) (List.mem_append.mpr (.inl List.mem_cons_self))
    obtain ⟨vs, hv⟩ := hf
    have J : ∃ od, PySem.W.InstAt s.heap a oe C od := by
      rcases hd with rfl | ⟨dd, us2, rfl, hdd⟩
      · refine ⟨none, hget, hz.1, by unfold PySem.W.notCls; rw [hv], ?_⟩
        rw [hz.2]; trivial
      · obtain ⟨mA, hns, _⟩ : ObjOk X.prog X.w H s.heap dd (.xd us2) := I.hok dd _ hdd
        obtain ⟨od, ho, _⟩ := lookIn_ns hns
        exact ⟨some od, hget, hz.1, by unfold PySem.W.notCls; rw [hv], by rw [hz.2]; exact ho⟩
    obtain ⟨od, J⟩ := J
    exact PySem.W.kia_one (PySem.W.exc_kit T) I.kIn J e (fun z => nomatch z) fun tk => ⟨.bl b, H, I.kept (t' := tk) fun _ _ z => z, rfl, q⟩
theorem LD.xi [Pn] (T : ExcC X.K C0) (hk : PySem.W.kitOne X.K (.ref C0) cv = some b) (hcv : ∀ u, RelV c u → u = cv) (hz : Zc (.ref C) d oe) (hf : ∃ vs, oe.data = .fields vs) (hg : Gl X "isinstance") (hm : X.mg "isinstance" = none)
    (he : PE (X.suite a ((a, oe) :: pn)) e (tVar i)) (he2 : PE (X.suite a ((a, oe) :: pn)) e2 (tC c))
    (hs : starEach [e, e2] X.env = (false, eval e X.env) :: starEach [e2] X.env := by rfl) (hpl : (backTo pos (starEach [e2] X.env)).any (·.1) = false := by rfl) (hs2 : starEach [e2] X.env = (false, eval e2 X.env) :: starEach [] X.env := by rfl) :
    LD (X.suite a ((a, oe) :: pn)) (.Call (.Name "isinstance" p) [e, e2] [] pos) (dXi C0 b a C d i) := by
  by_cases hC : C = C0
  · subst hC
    refine ⟨peImp (pe_callB (call_isD T hz hf) hg hm (by decide +kernel) (pa_cons he (pa_cons he2 pa_nil hs2) hs) (by decide) (by decide) hs hpl) fun σ H Q ⟨G, ρ, F, Q', R, q, k⟩ => ?_⟩
    unfold dXi at q
    split at q
    · rename_i v er
      obtain ⟨_, x, rfl, q⟩ := q
      obtain ⟨u, eu, du⟩ := R.sl i _ er
      obtain ⟨rfl, hx⟩ := exc_inv du
      refine ⟨_, eu, c, cv, b, rfl, hcv, hk, ?_, k _ _ _ _ _ q R (Same.refl _) (.bl _)⟩
      rcases hx with h | ⟨dd, us, h0, h1, _⟩
      · exact .inl h
      · exact .inr ⟨dd, us, h0, R.fh _ _ h1⟩
    · exact False.elim q
  · refine ⟨⟨fun pins s σ H Q I ⟨G, ρ, F, Q', R, q, k⟩ => ?_⟩⟩
    unfold dXi at q
    split at q
    · exact absurd q.1 hC
    · exact False.elim q
theorem pe_gcls {n : Str} {D : Addr} (hg : Gl X n) (hm : X.mg n = some (.ref D)) (hdb : (n == ("__debug__" : Str)) = false := by decide) : PE X (.Name n pos) (tC (.ref D)) :=
  ⟨fun pins s σ H Q I h => ld_glob I hg hm ⟨.ref D, H, I, rfl, h⟩ hdb⟩
theorem cv_ref {D : Addr} : ∀ u, RelV (V.ref D) u → u = .ref D := fun _ h => h
end
section
variable {P : Program} {w : World} {K : PySem.W.Frag} {mg : Str → Option Value} {base : Heap} {X : Cx} {C : Addr} {e e2 o : Expr} {es : List Expr} {pos apos : Pos} {t ta tb : TD} {tt : TAd} {S : XSpec} {j k : Nat} {ps : List Str} {op : Operator} {σ : L2.St} {H F : Hp} {Q : VK} {m qual : Str} {f : Addr} {fd : FuncData} {u : Xd → En → Prop} {W : WX} {st : Stmt}
structure CalRE (P : Program) (w : World) (K : PySem.W.Frag) (mg : Str → Option Value) (base : Heap) (k : Nat) (R : Addr → Prop) (ps : List Str) (S : XSpec) : Prop where
  ex : ∃ f fd, FnG P w K mg base (L2.CX P w) k f fd ps (liftX K S) ∧ R f ∧ Binds K fd ps []
theorem CalRE.mono {R : Addr → Prop} (h : CalRE P w K mg base j R ps S) (hk : j ≤ k) : CalRE P w K mg base k R ps S := by
  obtain ⟨f, fd, h1, h2⟩ := h.ex
  exact ⟨f, fd, h1.mono hk, h2⟩
end
end DL
namespace DL
open PySem L2 PyProof.Rows
section
variable {G : Gm} {X : Cx} {K : PySem.W.Frag} {F F' F1 F2 H H' H1 : Hp} {ρ ρ1 ρ2 : En} {σ : L2.St} {e e2 e3 tg elt kx iter o : Expr} {es ifs : List Expr} {pos apos cpos : Pos} {oa ob oc : Op1} {ta tb el ek : TD} {c : TTd} {v : V} {x : PD}
def dkD (kvs : List (Key × PD)) : PD := .dict (kvs.map fun p => (keyD p.1, p.2))
theorem dfk_kv {us : List (Key × V)} {kvs : List (Key × PD)} (h : DfK K F us (kvs.map fun p => (keyD p.1, p.2))) : DKv K F us kvs := by
  induction us generalizing kvs with
  | nil =>
    cases kvs with
    | nil => exact .nil
    | cons a b => cases h
  | cons u us ih =>
    cases kvs with
    | nil => cases h
    | cons p r =>
      obtain ⟨k, v⟩ := u
      obtain ⟨k', d⟩ := p
      have keq : ∀ {a b : Key}, keyD a = keyD b → a = b := by
        intro a b e
        cases a <;> cases b <;> simp [keyD] at e <;> rw [e]
      rw [List.map_cons] at h
      generalize hz : keyD (k', d).1 = z at h
      cases h with
      | cons a b => exact .cons ⟨(keq hz).symm, a⟩ (ih b)
theorem Df.dk_at {kvs : List (Key × PD)} (h : Df K F v (dkD kvs)) : ∃ a us, v = .ref a ∧ Rd F a (.dK us) ∧ DKv K F us kvs := by
  unfold dkD at h
  generalize hz : (kvs.map fun p => (keyD p.1, p.2)) = es at h
  cases h with
  | dk ha d => exact ⟨_, _, rfl, ha, dfk_kv (by rw [hz]; exact d)⟩
  | ins _ _ => cases kvs with
    | nil => cases hz
    | cons p r => obtain ⟨k, d⟩ := p; cases k <;> simp [keyD] at hz
  | ex0 => cases kvs with
    | nil => cases hz
    | cons p r => obtain ⟨k, d⟩ := p; cases k <;> simp [keyD] at hz
  | ex1 _ _ => cases kvs with
    | nil => cases hz
    | cons p r => obtain ⟨k, d⟩ := p; cases k <;> simp [keyD] at hz
  | dkL _ _ => cases kvs with
    | nil => cases hz
    | cons p r => obtain ⟨k, d⟩ := p; cases k <;> simp [keyD] at hz
  | ky _ => cases kvs with
    | nil => cases hz
    | cons p r => obtain ⟨k, d⟩ := p; cases k <;> simp [keyD] at hz
def dGetD (t : TD) (oa ob : Op1) : TD := fun ρ Q => t ρ fun l ρ1 => ∃ kvs, l = dkD kvs ∧ oa.run ρ1 fun a ρ2 => ob.run ρ2 fun b ρ3 => res1 ρ3 a fun y => resF ρ3 b fun z => ∃ k, keyP y = some k ∧ Q ((valP kvs k).getD z) ρ3
theorem LD.getD [Pn] (hu : X.A.units + 1 < cLine) (h : LD X o ta) (ha : LO X e oa) (hb : LO X e2 ob) (m : M2 X o "get" apos e e2 cpos) : LD X (.Call (.Attribute o "get" apos) [e, e2] [] cpos) (dGetD ta oa ob) :=
  ⟨peImp (pe_dget2 hu h.p ha.p hb.p m) fun σ H Q ⟨G, ρ, F, Q', R, q, c⟩ => ⟨G, ρ, F, _, R, q, fun l ρ1 v H1 F1 h1 R1 s1 d1 => by
    obtain ⟨kvs, hl, h1⟩ := h1
    subst hl
    obtain ⟨a, us, ev, ea, ok⟩ := d1.dk_at
    subst ev
    refine ⟨a, rfl, .inl ⟨us, rdM R1.fh ea⟩, G, ρ1, F1, _, R1, h1, fun x ρ2 w H2 F2 h2 R2 s2 ax => ⟨G, ρ2, F2, _, R2, h2, fun y ρ3 w2 H3 F3 h3 R3 s3 ay => ?_⟩⟩
    obtain ⟨y', h4, dx⟩ := res1_dr R3 (ax.mono s3) h3
    obtain ⟨z', h5, dz⟩ := resF_df R3 ay h4
    obtain ⟨k, hk, h6⟩ := h5
    have ea3 := rdM R3.fh (rdM s3 (rdM s2 ea))
    refine ⟨_, .inl ⟨us, k, ea3, keyP_v hk dx, rfl⟩, ?_⟩
    have ok3 := (ok.mono s2).mono s3
    rcases ok3.val k with ⟨e1, e2⟩ | ⟨v', x', e1, e2, d'⟩
    · rw [e1]; rw [e2] at h6
      exact c _ _ _ _ _ h6 R3 (s1.trans (s2.trans s3)) dz
    · rw [e1]; rw [e2] at h6
      exact c _ _ _ _ _ h6 R3 (s1.trans (s2.trans s3)) d'⟩⟩
end
end DL
namespace DL
open PySem L2 PyProof.Rows
section
variable {X : Cx} {e : Expr} {p pos kpos cp : Pos} {ta : TD} {te : TE} {oa : Op1} {d : Int} {j : Nat}
end
end DL
namespace DL
open PySem L2 PyProof.Rows
section
variable {P : Program} {w : World} {K : PySem.W.Frag} {mg : Str → Option Value} {base : Heap} {CX : CXT} {k : Nat} {f : Addr} {fd : FuncData} {ps : List Str} {sp sp' : Sp} {n : Str} {S S' : FSpec}
theorem FnG.weak (h : FnG P w K mg base CX k f fd ps sp') (hs : ∀ vs H Q E, sp vs H Q E → sp' vs H Q E) : FnG P w K mg base CX k f fd ps sp :=
  ⟨fun vs H Q E z => h.len vs H Q E (hs vs H Q E z), fun A outer s H args us vs Q E hr hg he hb hv z => h.run A outer s H args us vs Q E hr hg he hb hv (hs vs H Q E z)⟩
theorem liftC_weak (hs : ∀ args Q, S.sp args Q → S'.sp args Q) (vs : List V) (H : Hp) (Q : VK) (E : XK) (h : liftC K S vs H Q E) : liftC K S' vs H Q E := by
  obtain ⟨args, F, ios, n, Qd, h1, h2, h3, h6, h7⟩ := h
  exact ⟨args, F, ios, n, Qd, h1, h2, h3, hs args Qd h6, h7⟩
theorem Cal.weak (c : Cal P w K mg base k n ps S') (h : ∀ args Q, S.sp args Q → S'.sp args Q) : Cal P w K mg base k n ps S := by
  obtain ⟨f, fd, h1, h2⟩ := c.ex
  exact ⟨f, fd, h1.weak (liftC_weak h), h2⟩
end
end DL
namespace DL
open PySem L2 PyProof.Rows
section
variable {G : Gm} {X : Cx} {K : PySem.W.Frag} {F F' F1 F2 H H' H1 : Hp} {ρ ρ1 ρ2 : En} {σ σ1 : L2.St} {e e2 tg : Expr} {td : TE} {pos : Pos} {oa : Op1} {s : Nat} {v : V} {x : PD}
end
end DL
namespace DL
open PySem L2 PyProof.Rows
section
variable {X : Cx} {e : Expr} {oa : Op1} {t : TD}
end
end DL
namespace L2
open PySem PySem.Spec PyProof.Rows
theorem dset_tuple {X : Cx} {pins : List (Addr × Obj)} {σ : St} {H : Hp} {s : Shared} {E : Value → Shared → Prop} {D b : Addr} {kvs : List (List Key × V)} {ks : List Key} {v : V} {u r : Value} {Q : Unit → Shared → Prop}
    (hu : X.A.units + 1 < cLine) (I : Inv X pins σ H s) (eD : H D = some (.dT kvs)) (eb : H b = some (.tup (ks.map kV))) (room : kvs.length < sizeLine) (ru : RelV (.ref b) u) (rv : RelV v r)
    (go : ∀ s', Inv X pins σ (upd H D (.dT (putK kvs ks v))) s' → Q () s') : wpAny (model X.prog X.w) X.A (dictSet D u r) Q E s := by
  cases (show u = Value.ref b from ru)
  obtain ⟨z, sm, ys, kt, whole⟩ := dt_of I.hok eD
  have more : (putK kvs ks v).length ≤ sizeLine := Nat.le_trans (length_putK kvs ks v) room
  refine wpAny_dictSet_heap (hsz := by rw [← Paired.length kt]; exact z) (show X.A.units < cLine by omega) (key_of I.hok eb) whole fun h2 new sb => go _ ?_
  obtain ⟨ob, en, ep, at_, c1, c2, c3, _, c5⟩ := new
  refine d_write I (by rw [eD]; exact True.intro) sb ⟨ob, at_⟩ ⟨more, sm, _, Paired.mapP (kt.put ks eb rv) fun p q w => ?_, ob, en, ep, at_, c1, c2, c3, c5⟩
  refine ⟨w.1, ?_, w.2.2⟩
  rw [upd_ne (ne_of w.2.1 eD fun n => nomatch n)]
  exact w.2.1
def tCompT (src : TI) (bind : TG) (when_ : TT) (key val : TE) (own : List Nat) : TE := fun σ H0 Q => src σ H0 fun J Ha => ∀ N, Ha N = none →
  ∃ Z : Nat → Nat → Hp → Prop, (∃ c, Z 0 c (upd Ha N (.dT []))) ∧ ∀ n c Hb, Z n c Hb → J.stop n Hb ∧ Q (.ref N) Hb ∨
    J.go n Hb ∧ ∃ Then : Hp → Prop, (∀ Hc, Then Hc → ∃ c2, c2 < c ∧ Z (n + 1) c2 Hc) ∧ ∀ e Hc, J.yld n Hb e Hc → bind e (wipe σ own) Hc fun τ Hd => wipe τ own = wipe σ own ∧
      when_ τ Hd fun yes He => if yes = true then key τ He fun kx Hf => val τ Hf fun vx Hg => ∃ old ks b, kx = .ref b ∧ Hg b = some (.tup (ks.map kV)) ∧ Hg N = some (.dT old) ∧ old.length < sizeLine ∧ Then (upd Hg N (.dT (putK old ks vx))) else Then He
section
variable {X : Cx} {kx vx tg it : Expr} {ifs : List Expr} {scope : Scope} {own : List (Str × Nat)} {pos : Pos} {src : TI} {bind : TG} {when_ : TT} {key val : TE}
theorem pe_compT (hu : X.A.units + 1 < cLine) (calm : X.calm = true) (nd : X.N.Nodup) (ps : PI X tg it src) (bk : BlkOk X.N X.env.scope scope own)
    (pb : ∀ (s : Shared) (H : Hp) (C : Addr) (cl : List (Str × Addr)) (fp : List Addr), PG (X.blk s H scope (compEnvC scope cl C X.env) fp) tg bind)
    (pw : ∀ (s : Shared) (H : Hp) (C : Addr) (cl : List (Str × Addr)) (fp : List Addr), PTs (X.blk s H scope (compEnvC scope cl C X.env) fp) ifs when_)
    (pk : ∀ (s : Shared) (H : Hp) (C : Addr) (cl : List (Str × Addr)) (fp : List Addr), PE (X.blk s H scope (compEnvC scope cl C X.env) fp) kx key)
    (pv : ∀ (s : Shared) (H : Hp) (C : Addr) (cl : List (Str × Addr)) (fp : List Addr), PE (X.blk s H scope (compEnvC scope cl C X.env) fp) vx val)
    (plain : ∀ x, foldedSetIterable it X.env x = pure x := by intro _; rfl) : PE X (.DictComp kx vx [⟨tg, it, ifs, 0⟩] scope pos) (tCompT src bind when_ key val (own.map (·.2))) := by
  refine ⟨fun pins s σ H Q I0 h0 => ?_⟩
  rw [arm_eval_DictComp]
  have cells : ∀ y ∈ scope.names, y.2 = .free → ∃ c, X.env.cells.lookup y.1 = some c := fun y hy e => (bk.free y hy e).elim (fun k => I0.ok.has _ (.inl k)) fun k => I0.ok.has _ (.inr k)
  refine wpAny_comprehension_free (use := none) rfl plain (closure_ok cells) bk.kind (fun y hy e => by rw [bk.uniq y hy, e]) (thn (ps.run pins s σ H _ I0 h0) fun xv sA hx => thn hx fun iv sB got => ?_)
  obtain ⟨ad, fp, tn, J, Ha, rfl, Ia, T, sta, fpa, rest⟩ := got
  refine wpAny_newObj_type (newEnv_comp ?_)
  obtain ⟨N, eN⟩ : ∃ N, sB.heap.objs.size = N := ⟨_, rfl⟩
  rw [eN]
  have fresh : Ha N = none := Ia.hok.fresh (Nat.le_of_eq eN)
  obtain ⟨Z, ⟨c0, z0⟩, turn⟩ := rest N fresh
  obtain ⟨sC, eC⟩ : ∃ sC : Shared, { sB with heap := sB.heap.push { cls := .type "dict", data := .dict #[] } } = sC := ⟨_, rfl⟩
  obtain ⟨Hn, eH⟩ : ∃ Hn, upd Ha N (.dT []) = Hn := ⟨_, rfl⟩
  rw [eC]
  rw [eH] at z0
  have heapC : sC.heap = sB.heap.push { cls := .type "dict", data := .dict #[] } := by rw [← eC]
  have Ib : Inv X pins σ Hn sC := by
    have new := dt_empty (P := X.prog) (w := X.w) (H := upd Ha N (.dT [])) sB.heap Ia.big
    rw [eN] at new
    rw [← eC, ← eH]
    exact Ia.laid (t' := sB.toks) (fun b o e => Heap.get?_push_of_some _ e) (Nat.le_of_eq eN) new
  have small : ∀ b ∈ fp, b < sB.heap.objs.size := fun b hb => (T.obj _ _ sta b hb).elim fun o e => Heap.lt_size e.1
  have fpb : ∀ b ∈ fp, FpOk X pins Hn b ∧ b < sC.heap.objs.size := fun b hb => ⟨⟨by rw [← eH, upd_ne (by rw [← eN]; exact Nat.ne_of_lt (small b hb))]; exact (fpa b hb).1, (fpa b hb).2⟩, by rw [heapC, Heap.size_push]; exact Nat.lt_succ_of_lt (small b hb)⟩
  have stb : tn 0 sC.heap := T.keep _ _ _ sta fun b _ o e => by rw [heapC]; exact Heap.get?_push_of_some _ e
  have Ic := block_start Ib bk nd fpb
  obtain ⟨cl, ecl⟩ : ∃ cl, cellsFrom (sC.heap.objs.size + 1) scope.names (cloFrom X.env.cells scope.names []) = cl := ⟨_, rfl⟩
  have pb := pb sC Hn sC.heap.objs.size cl fp
  have pw := pw sC Hn sC.heap.objs.size cl fp
  have pk := pk sC Hn sC.heap.objs.size cl fp
  have pv := pv sC Hn sC.heap.objs.size cl fp
  obtain ⟨en, een⟩ : ∃ en, compEnvC scope cl sC.heap.objs.size X.env = en := ⟨_, rfl⟩
  rw [een] at pb pw pk pv
  rw [ecl, een] at Ic
  have loc : en.locals = sC.heap.objs.size := by rw [← een]; rfl
  obtain ⟨sD, eD⟩ : ∃ sD : Shared, { sC with heap := pushCells (sC.heap.push { cls := .type "dict", data := .dict #[] }) scope.names } = sD := ⟨_, rfl⟩
  show codeAny _ _ (.compStart (.DictComp kx vx [⟨tg, it, ifs, 0⟩] scope pos) 0 (.ref ad) (.ref N) (compEnvC scope (cellsFrom (sC.heap.objs.size + 1) scope.names (cloFrom X.env.cells scope.names [])) sC.heap.objs.size X.env)) (compPost (model X.prog X.w) X.A X.xe none _ (.ref N) sC.heap.objs.size) { sC with heap := pushCells (sC.heap.push { cls := .type "dict", data := .dict #[] }) scope.names }
  rw [ecl, een, eD]
  rw [eD] at Ic
  have std : tn 0 sD.heap := T.keep _ _ _ stb fun b _ o e => by rw [← eD]; exact pushCells_keeps _ _ _ _ (Heap.get?_push_of_some _ e)
  have keep : ∀ {τ : St} {Hx : Hp} {sx : Shared}, Inv (X.blk sC Hn scope en fp) [] τ Hx sx → (∀ b ∈ fp, Hx b = none) → ∀ b ∈ fp, FpOk (X.blk sC Hn scope en fp) [] Hx b := fun {τ Hx sx} Ix no b hb =>
    ⟨no b hb, (Ix.ok.exf b hb).1, Ix.ok.exfs b hb, .inl hb, fun x c e => (Ix.ok.exf b hb).2 x c e, fun p hp => absurd (show p ∈ ([] : List (Addr × Obj)) ++ [] from hp) (by simp)⟩
  refine codeAny_compStart_dict ?_ (T.self X.A 0 _ _ _ std ?_)
  all_goals
    refine compLoop_anyD (fun c sx => ∃ n Hx, Inv (X.blk sC Hn scope en fp) [] (wipe σ (own.map (·.2))) Hx sx ∧ tn n sx.heap ∧ (∀ b ∈ fp, Hx b = none) ∧ Z n c Hx) ?_ c0 ⟨0, Hn, Ic, std, fun b hb => (fpb b hb).1.1, z0⟩
    rintro c sE ⟨n, He, Ie, ste, noe, ze⟩
    rcases turn n c He ze with ⟨stop, fine⟩ | ⟨go, Then, dec, step⟩
    · refine thnF (T.done (X.blk sC Hn scope en fp) rfl rfl rfl calm n [] sE _ He (fun _ _ => False) Ie (keep Ie noe) ste stop) fun r sF ⟨er, If⟩ => ?_
      subst er
      have Ig : Inv X pins σ He sF := Ib.call' (ch := fp) If.os If.base If.hok If.bare fun b hb => let w := (fpb b hb).1; ⟨w.2.2.2.1, w.2.1, w.2.2.2.2.1, w.2.2.2.2.2⟩
      have gone : He sC.heap.objs.size = none := by
        have := If.free
        rw [show (X.blk sC Hn scope en fp).env.locals = sC.heap.objs.size from loc] at this
        exact this
      obtain ⟨m, ns, _⟩ := If.loc
      rw [show (X.blk sC Hn scope en fp).env.locals = sC.heap.objs.size from loc] at ns
      obtain ⟨g0, g1, g2, g3, g4, g5⟩ := Ib.fpOk (Nat.le_refl sC.heap.objs.size) gone
      exact ⟨m, ns, fun h2 sb => ⟨.ref N, He, Ig.turned (t' := sF.toks) (fun b o hb e => (sb.2 b hb).trans e) g0 g1 g3 g4 g5, rfl, fine⟩⟩
    · refine thnF (T.item (X.blk sC Hn scope en fp) rfl rfl rfl calm n [] sE _ He (fun _ _ => False) Ie (keep Ie noe) ste go) fun r sF ⟨u, er, hF⟩ => ?_
      subst er
      refine thnF hF fun _ sG ⟨x, Hg, Ig, rg, yg, stg, nog⟩ => ?_
      refine thnF (pb.run _ sG _ Hg x u _ (Ig.pinned (keep Ig nog) (T.obj _ _ stg)) rg (step x Hg yg)) fun _ sH ⟨τ, Hh, Ih, wh, qh⟩ => ?_
      refine thnF (pw.run _ sH τ Hh _ Ih qh) fun yes sI ⟨Hi, Ii, qi⟩ => ?_
      have next : ∀ {sx : Shared} {Hx : Hp}, Inv (X.blk sC Hn scope en fp) ([] ++ pinsAt fp sG.heap) τ Hx sx → Then Hx → ∃ c2, c2 < c ∧ ∃ n Hx, Inv (X.blk sC Hn scope en fp) [] (wipe σ (own.map (·.2))) Hx sx ∧ tn n sx.heap ∧ (∀ b ∈ fp, Hx b = none) ∧ Z n c2 Hx := fun {sx Hx} Ix tx => by
        obtain ⟨c2, lt, zx⟩ := dec Hx tx
        have pin : ∀ b ∈ fp, ∀ o, sG.heap.get? b = some o → sx.heap.get? b = some o ∧ Hx b = none := fun b hb o e => let w := Ix.pin (b, o) (List.mem_append_right _ (List.mem_append_right _ (mem_pinsAt hb e))); ⟨w.1, w.2.1⟩
        refine ⟨c2, lt, n + 1, Hx, (Ix.unpinned (pins := [])).weak (by rw [← wh, wipe_length]) (fun j v e => ?_), T.keep _ _ _ stg fun b hb o e => (pin b hb o e).1, fun b hb => (T.obj _ _ stg b hb).elim fun o w => (pin b hb o w.1).2, zx⟩
        rw [← wh] at e
        exact (wipe_some e).1
      cases yes with
      | false => exact next Ii (by simpa using qi)
      | true =>
        have qi : key τ Hi fun kx Hf => val τ Hf fun vx Hg => ∃ old ks b, kx = .ref b ∧ Hg b = some (.tup (ks.map kV)) ∧ Hg N = some (.dT old) ∧ old.length < sizeLine ∧ Then (upd Hg N (.dT (putK old ks vx))) := by simpa using qi
        refine thnF (pk.run _ sI τ Hi _ Ii qi) fun w1 sJ ⟨k1, Hj, Ij, rj, qj⟩ => ?_
        refine thnF (pv.run _ sJ τ Hj _ Ij qj) fun w2 sK ⟨v1, Hk, Ik, rk, old, ks, b, ek, eb, eN2, lt, tk⟩ => ?_
        subst ek
        exact dset_tuple (X := X.blk sC Hn scope en fp) hu Ik eN2 eb lt rj rk fun sL Il => next Il tk
end
end L2
namespace DL
open PySem L2 PyProof.Rows
abbrev TKd := En → (List Key → En → Prop) → Prop
def liftK [Pn] (K : PySem.W.Frag) (t : TKd) : TE := fun σ H Q => ∃ G ρ F Q', Rel K G ρ F σ H ∧ t ρ Q' ∧ ∀ ks ρ' b H' F', Q' ks ρ' → Rel K G ρ' F' σ H' → Same F F' → F' b = some (.tup (ks.map kV)) → Q (.ref b) H'
structure LK [Pn] (X : Cx) (e : Expr) (t : TKd) : Prop where
  p : PE X e (liftK X.K t)
def kTupl (t : TAd) : TKd := fun ρ Q => t ρ fun as ρ1 => resFA ρ1 as fun xs => ∃ ks : List Key, xs = ks.map keyD ∧ Q ks ρ1
section
variable {G : Gm} {X : Cx} {K : PySem.W.Frag} {F F' F1 F2 H H' H1 : Hp} {ρ ρ1 ρ2 : En} {σ : L2.St} {e e2 e3 tg elt kx iter o : Expr} {es ifs : List Expr} {pos apos cpos p2 : Pos} {oa ob oc : Op1} {ta tb el : TD} {ek : TKd} {c : TTd} {v : V} {x : PD} {s : Nat}
theorem LK.tup [Pn] {t : TAd} {k : Nat} (h : LA X es t) (hn : es.length ≤ 100000 := by decide) : LK X (.Tuple es k pos) (kTupl t) := ⟨peImp (pe_tup h.p) fun σ H Q ⟨G, ρ, F, Q', R, q, c⟩ => ⟨G, ρ, F, _, R, q, fun as ρ1 vs H1 F1 h1 hl R1 s1 a1 => by
  obtain ⟨xs, h2, d⟩ := resFA_df R1 a1 h1
  obtain ⟨ks, rfl, h3⟩ := h2
  have ev := keys_of d
  subst ev
  refine ⟨Nat.le_trans (by rw [← a1.length, hl]; exact hn) (by decide), fun p hp => ?_⟩
  have g := Grow.frozen R1.fh hp (.tup (ks.map kV))
  exact c _ _ _ _ _ h3 (R1.grow g) (s1.trans g.ff) upd_same⟩⟩
theorem own_dt [Pn] (R : Rel K G ρ F σ H) {p : Option Nat} {kvs : List (List Key × PD)} (er : ρ[s]? = some (some (.dt p kvs))) : ∃ a us, σ[s]? = some (some (.ref a)) ∧ H a = some (.dT us) ∧ DKv K F us kvs := by
  obtain ⟨a, es, nf, ow, o, eo, ok⟩ := R.at_ er rfl
  cases o <;> first | exact False.elim ok | skip
  exact ⟨a, _, es, eo, ok⟩
def dGetT (s : Nat) (ek : TKd) (ob : Op1) : TD := fun ρ Q => match ρ[s]? with
  | some (some (.dt _ _)) => ek ρ fun ks ρ1 => ob.run ρ1 fun b ρ2 => resF ρ2 b fun z => (match ρ2[s]? with
    | some (some (.dt _ kvs)) => Q ((valP kvs ks).getD z) ρ2
    | _ => False)
  | _ => False
theorem LD.getT [Pn] (hu : X.A.units + 1 < cLine) (ho : PE X o (tVar s)) (hk : LK X e ek) (hb : LO X e2 ob) (m : M2 X o "get" apos e e2 cpos) : LD X (.Call (.Attribute o "get" apos) [e, e2] [] cpos) (dGetT s ek ob) :=
  ⟨peImp (pe_dget2 hu ho hk.p hb.p m) fun σ H Q ⟨G, ρ, F, Q', R, q, c⟩ => by
    unfold dGetT at q
    split at q
    · rename_i p0 kv0 er0
      obtain ⟨a, us, es, ea, _⟩ := own_dt R er0
      refine ⟨_, es, a, rfl, .inr ⟨us, .inl ea⟩, G, ρ, F, _, R, q, fun ks ρ1 b H1 F1 h1 R1 s1 tb => ⟨G, ρ1, F1, _, R1, h1, fun y ρ2 w2 H2 F2 h2 R2 s2 ay => ?_⟩⟩
      obtain ⟨z', h3, dz⟩ := resF_df R2 ay h2
      split at h3
      · rename_i p kvs er
        obtain ⟨a2, us2, es2, ea2, ok⟩ := own_dt R2 er
        rw [es] at es2
        have eab : a = a2 := by simpa using es2
        subst eab
        refine ⟨_, DGet.t ea2 (R2.fh _ _ (s2 _ _ tb)), ?_⟩
        have s12 := s1.trans s2
        rcases ok.val ks with ⟨e1, e2⟩ | ⟨v', x', e1, e2, d'⟩
        · rw [e1]; rw [e2] at h3
          exact c _ _ _ _ _ h3 R2 s12 dz
        · rw [e1]; rw [e2] at h3
          exact c _ _ _ _ _ h3 R2 s12 d'
      · exact False.elim h3
    · exact False.elim q⟩
def dIxT (s : Nat) (ek : TKd) : TD := fun ρ Q => match ρ[s]? with
  | some (some (.dt _ _)) => ek ρ fun ks ρ1 => (match ρ1[s]? with
    | some (some (.dt _ kvs)) => ∃ z, valP kvs ks = some z ∧ Q z ρ1
    | _ => False)
  | _ => False
theorem LD.ixT [Pn] (hu : X.A.units + 1 < cLine) (ho : PE X o (tVar s)) (hk : LK X e ek) (hs : NoSl e) : LD X (.Subscript o e pos) (dIxT s ek) :=
  ⟨peImp (pe_dget hu ho hk.p hs) fun σ H Q ⟨G, ρ, F, Q', R, q, c⟩ => by
    unfold dIxT at q
    split at q
    · rename_i p0 kv0 er0
      obtain ⟨a, us, es, ea, _⟩ := own_dt R er0
      refine ⟨_, es, G, ρ, F, _, R, q, fun ks ρ1 b H1 F1 h1 R1 s1 tb => ?_⟩
      split at h1
      · rename_i p kvs er
        obtain ⟨a2, us2, es2, ea2, ok⟩ := own_dt R1 er
        rw [es] at es2
        have eab : a = a2 := by simpa using es2
        subst eab
        obtain ⟨z, hz, h2⟩ := h1
        rcases ok.val ks with ⟨e1, e2⟩ | ⟨v', x', e1, e2, d'⟩
        · rw [hz] at e2; cases e2
        · rw [hz] at e2
          cases e2
          have g := DGet.t ea2 (R1.fh _ _ tb)
          rw [e1] at g
          exact ⟨a, v', rfl, g, c _ _ _ _ _ h2 R1 s1 d'⟩
      · exact False.elim h1
    · exact False.elim q⟩
def sDtK (s : Nat) (ek : TKd) (te : TD) : TSt := fun D ρ => te ρ fun x ρ1 => match ρ1[s]? with
  | some (some (.dt _ _)) => ek ρ1 fun ks ρ2 => (match ρ2[s]? with
    | some (some (.dt p kvs)) => kvs.length < sizeLine ∧ D.nx (ρ2.set s (some (.dt p (putP kvs ks x))))
    | _ => False)
  | _ => False
theorem LS.dtK [Pn] (hu : X.A.units + 1 < cLine) (h : LD X e ta) (ho : PE X o (tVar s)) (hk : LK X e2 ek) (hs : swapsWith e (some (.Subscript o e2 p2)) pos.line X.env = pure false := by rfl) :
    LS X (.Assign [.Subscript o e2 p2] e pos) (sDtK s ek ta) :=
  ⟨psImp (ps_dput hu ho hk.p h.p hs) fun D σ H ⟨G, ρ, F, D', R, q, k⟩ => ⟨G, ρ, F, _, R, q, fun x ρ1 v H1 F1 h1 R1 s1 d => by
    split at h1
    · rename_i p0 kv0 er0
      obtain ⟨a, us, es, ea, _⟩ := own_dt R1 er0
      refine ⟨_, es, G, ρ1, F1, _, R1, h1, fun ks ρ2 b H2 F2 h2 R2 s2 tb => ?_⟩
      split at h2
      · rename_i p kvs er
        obtain ⟨a2, us2, es2, ea2, ok⟩ := own_dt R2 er
        rw [es] at es2
        have eab : a = a2 := by simpa using es2
        subst eab
        obtain ⟨hl, h3⟩ := h2
        exact ⟨a, _, rfl, DPut.t ea2 (R2.fh _ _ tb) (by rw [Paired.length ok]; exact hl), k.nx _ _ _ _ h3 (R2.write er rfl es (m := .dt p (putP kvs ks x)) (DKv.put ok (d.mono s2)) rfl) (s1.trans s2)⟩
      · exact False.elim h2
    · exact False.elim h1⟩⟩
def fDcT (src : TId) (vs : List Nat) (pt : Pt) (c : TTd) (ek : TKd) (el : TD) : TF := fun ρ Q => src ρ fun w ρ1 => (lcFree ρ1 vs = true ∧ w.apart vs = true) ∧ ∃ I : Nat → List (List Key × PD) → En → Prop, I 0 [] (wipeE ρ1 vs) ∧
  (∀ i acc ρ2, I i acc ρ2 → w.keeps ρ2) ∧
  (∀ i x acc ρ2, w.list[i]? = some x → I i acc ρ2 → pt.go x ρ2 fun ρ3 => c ρ3 fun b ρ4 => brB b (ek ρ4 fun k ρ5 => el ρ5 fun z ρ6 => acc.length < sizeLine ∧ I (i + 1) (putP acc k z) (wipeE ρ6 vs)) (I (i + 1) acc (wipeE ρ4 vs))) ∧
  ∀ acc ρ2, I w.list.length acc ρ2 → Q (.dt none acc) (restE ρ1 ρ2 vs)
theorem tDcT_of [Pn] {src : TId} {vs : List Nat} {pt : Pt} (hs : ∀ i ∈ pt.slots, i ∈ vs) {Q : VK} (h : liftF K (fDcT src vs pt c ek el) σ H Q) : L2.tCompT (liftI K src) (pt.tg K) (liftT K c) (liftK K ek) (liftD K el) vs σ H Q := by
  obtain ⟨G, ρ, F, Q', R, q, k⟩ := h
  refine ⟨G, ρ, F, _, R, q, fun w ρ1 H1 F1 J q1 R1 s1 wk D hD => ?_⟩
  obtain ⟨⟨hfree, hap⟩, I, i0, ikeep, turn, fin⟩ := q1
  have h0 : G.H0 D = none := R1.h0 hD
  have dio : D ∉ G.io := fun z => (R1.ih D z).2 h0
  have kS : w.keepS (L2.wipe σ vs) σ := by
    cases w with
    | items xs => trivial
    | nst s nm b xs => trivial
    | own s p xs =>
      have : s ∉ vs := by simpa [Wk.apart] using hap
      exact wipe_ne this
  let Hd := fun (i : Nat) (H : Hp) => ∃ ρ2 F2 accV acc, Rel K G (wipeE ρ2 vs) F2 (L2.wipe σ vs) H ∧ Same F1 F2 ∧ H D = some (.dT accV) ∧ DKv K F2 accV acc ∧ F2 D = none ∧ NoN (wipeE ρ2 vs) D ∧
    (∀ (j : Nat) (m : Lc), (wipeE ρ2 vs)[j]? = some (some m) → m.own = true → (L2.wipe σ vs)[j]? ≠ some (some (.ref D))) ∧ I i acc (wipeE ρ2 vs)
  have start : Hd 0 (upd H1 D (.dT [])) := by
    have Rw := R1.wipe vs (σ' := L2.wipe σ vs) (wipe_length σ vs) fun j hj => wipe_ne hj
    refine ⟨ρ1, F1, [], [], Rw.grow (Grow.owned R1.fh hD _), Same.refl _, upd_same, .nil, R1.fh.free hD, ((R1.noN_free hD).sub fun j m e => (wipeE_get e).2), fun j m e hm z => ?_, i0⟩
    obtain ⟨a, e1, _, _, ob, eo, _⟩ := Rw.at_ e hm
    rw [z] at e1
    have : D = a := by simpa using e1
    subst this
    rw [hD] at eo; cases eo
  refine ⟨fun i m H => m = w.list.length - i ∧ i ≤ w.list.length ∧ Hd i H, ⟨w.list.length, rfl, Nat.zero_le _, start⟩, ?_⟩
  rintro i m H2 ⟨rfl, hi, ρ2, F2, accV, acc, R2, s2, hDv, dA, fD, nN, nD, i2⟩
  obtain ⟨wstop, wgo⟩ := wk G i _ F2 _ H2 R2 s2 (ikeep _ _ _ i2) kS
  by_cases hlt : i < w.list.length
  · obtain ⟨go, yld⟩ := wgo hlt
    refine .inr ⟨go, Hd (i + 1), fun H' h => ⟨_, by omega, rfl, hlt, h⟩, fun x H' y => ?_⟩
    obtain ⟨F', d, g, ed, dd⟩ := yld x H' y
    have R3 := R2.grow g
    have fD' : F' D = none := by
      cases q : F' D with
      | none => rfl
      | some u =>
        rcases g.nw D (by rw [q]; simp) fD with this | ⟨us, this⟩
        · rw [hDv] at this; cases this
        · have this := g.fh _ _ this
          rw [g.hh _ _ hDv] at this; cases this
    have Rp := R3.pin fD' (g.hh _ _ hDv) h0 nD nN
    refine pt_go pt Rp dd (turn i d acc _ ed i2) fun ρ3 σ3 q3 R4 o3 => ⟨wipe_only hs o3, G.pin D (.dT accV), ρ3, F', _, R4, q3, fun b ρ4 H4 F4 h4 R5 s5 => ?_⟩
    have hj : ∀ j, j ∉ vs → (L2.wipe σ vs)[j]? = σ3[j]? := fun j hj => (o3.2 j fun z => hj (hs j z)).symm
    have hl3 : (L2.wipe σ vs).length = σ3.length := o3.1.symm
    cases b with
    | false =>
      obtain ⟨R6, f6, h6, n6⟩ := R5.unpin R1.ok h0 (R1.ff.free (R1.fh.free hD)) dio
      refine iteF ⟨ρ4, F4, accV, acc, R6.wipe vs hl3 hj, s2.trans (g.ff.trans s5), h6, dA.mono (g.ff.trans s5), f6, ((R5.unpinN dio).sub fun j m e => (wipeE_get e).2), fun j m e hm z => ?_, h4.2 rfl⟩
      obtain ⟨a, b⟩ := wipeE_get e
      exact n6 j m b hm (by rw [← hj j a]; exact z)
    | true =>
      refine iteT ⟨G.pin D (.dT accV), ρ4, F4, _, R5, h4.1 rfl, fun kk ρ5 b5 H5 F5 h5 R7 s7 tb => ⟨G.pin D (.dT accV), ρ5, F5, _, R7, h5, fun z ρ6 u2 H6 F6 h6' R8 s8 dz => ?_⟩⟩
      obtain ⟨hlen, h7⟩ := h6'
      obtain ⟨R6, f6, h6, n6⟩ := R8.unpin R1.ok h0 (R1.ff.free (R1.fh.free hD)) dio
      have sA := g.ff.trans (s5.trans (s7.trans s8))
      have la : accV.length = acc.length := Paired.length dA
      refine ⟨accV, kk, b5, rfl, R8.fh _ _ (s8 _ _ tb), h6, by rw [la]; exact hlen, ρ6, F6, putK accV kk u2, putP acc kk z, ?_, s2.trans sA, upd_same, DKv.put (dA.mono sA) dz, f6, ((R8.unpinN dio).sub fun j m e => (wipeE_get e).2), fun j m e hm z => ?_, h7⟩
      · exact (R6.side f6 h0 n6 (R8.unpinN dio)).wipe vs hl3 hj
      · obtain ⟨a, b⟩ := wipeE_get e
        exact n6 j m b hm (by rw [← hj j a]; exact z)
  · have ei : i = w.list.length := by omega
    subst ei
    refine .inl ⟨wstop (Nat.le_refl _), k (.dt none acc) _ _ H2 F2 (fin acc _ i2) (R1.rest vs hfree R2 s2) (s1.trans s2) ⟨D, rfl, rfl, ⟨fD, h0, _, hDv, dA⟩, ⟨fun j m e hm z => ?_, fun j m ys e hy => ?_, .nil rfl⟩⟩⟩
    · rcases restE_get e with ⟨hj, e⟩ | ⟨hj, e⟩
      · have := List.all_eq_true.mp hfree j hj
        rw [e] at this
        have this : (!m.own) = true := this
        rw [hm] at this; cases this
      · exact nD j m e hm (by rw [wipe_ne hj]; exact z)
    · rcases restE_get e with ⟨hj, e⟩ | ⟨hj, e⟩
      · have := List.all_eq_true.mp hfree j hj
        rw [e] at this
        have this : (!m.own) = true := this
        rw [Lc.fp_own (by simpa using this)] at hy; cases hy
      · exact nN j m ys e hy
theorem LF.dcT [Pn] {scope : Scope} {own : List (Str × Nat)} {vs : List Nat} {src : TId} {pt : Pt} (hu : X.A.units + 1 < cLine) (hc : X.calm = true) (hN : X.N.Nodup) (hi : LI X tg iter src) (ok : BlkOk X.N X.env.scope scope own) (hv : own.map (·.2) = vs) (hs : ∀ i ∈ pt.slots, i ∈ vs)
    (hg : ∀ (s : Shared) (H : Hp) (C : Addr) (cl : List (Str × Addr)) (fp : List Addr), PG (X.blk s H scope (compEnvC scope cl C X.env) fp) tg (pt.tg X.K)) (ht : ∀ (s : Shared) (H : Hp) (C : Addr) (cl : List (Str × Addr)) (fp : List Addr), PTs (X.blk s H scope (compEnvC scope cl C X.env) fp) ifs (liftT X.K c))
    (hk : ∀ (s : Shared) (H : Hp) (C : Addr) (cl : List (Str × Addr)) (fp : List Addr), LK (X.blk s H scope (compEnvC scope cl C X.env) fp) kx ek)
    (he : ∀ (s : Shared) (H : Hp) (C : Addr) (cl : List (Str × Addr)) (fp : List Addr), LD (X.blk s H scope (compEnvC scope cl C X.env) fp) elt el) (hf : ∀ x, foldedSetIterable iter X.env x = pure x := by intro _; rfl) :
    LF X (.DictComp kx elt [⟨tg, iter, ifs, 0⟩] scope pos) (fDcT src vs pt c ek el) := ⟨peImp (L2.pe_compT hu hc hN hi.p ok hg ht (fun s H C cl fp => (hk s H C cl fp).p) (fun s H C cl fp => (he s H C cl fp).p) hf) fun σ H Q h => by rw [hv]; exact tDcT_of hs h⟩
end
end DL
namespace DL
open PySem L2 PyProof.Rows
section
variable {X : Cx} {K : PySem.W.Frag} {F H : Hp}
end
end DL
namespace L2
open PySem PyProof.Rows PySem.Spec
end L2
namespace DL
open PySem L2 PyProof.Rows PySem.Spec
section
variable {X : Cx} {K : PySem.W.Frag}
end
end DL
namespace DL
open PySem L2 PyProof.Rows
def kyP (ks : List Key) : PD := .dict [(.bool false, .tuple (ks.map keyD))]
section
variable {G : Gm} {X : Cx} {K : PySem.W.Frag} {F F' F1 F2 H H' H1 : Hp} {ρ ρ1 ρ2 : En} {σ : L2.St} {e e2 e3 tg elt kx ve ke o : Expr} {es : List Expr} {pos apos cpos p p2 : Pos} {oa ob oc : Op1} {ta tb tv el : TD} {tt : TAd} {ek : TKd} {c : TTd} {v : V} {x : PD} {s k : Nat} {tf fa fb : TF}
theorem keyD_inj {a b : Key} (e : keyD a = keyD b) : a = b := by cases a <;> cases b <;> simp [keyD] at e <;> rw [e]
theorem keysD_inj : ∀ {a b : List Key}, a.map keyD = b.map keyD → a = b
  | [], [], _ => rfl
  | [], _ :: _, h => by cases h
  | _ :: _, [], h => by cases h
  | a :: r, b :: t, h => by
    rw [List.map_cons, List.map_cons, List.cons.injEq] at h
    rw [keyD_inj h.1, keysD_inj h.2]
theorem Df.ky_at {ks : List Key} (h : Df K F v (kyP ks)) : ∃ b, v = .ref b ∧ F b = some (.tup (ks.map kV)) := by
  unfold kyP at h
  generalize hz : ks.map keyD = zs at h
  cases h with
  | dk _ h2 => exact absurd rfl (dict_keys h2)
  | ky q => rw [keysD_inj hz]; exact ⟨_, rfl, q⟩
def kD (t : TD) : TKd := fun ρ Q => t ρ fun x ρ1 => ∃ ks, x = kyP ks ∧ Q ks ρ1
theorem LK.ofD [Pn] (h : LD X e ta) : LK X e (kD ta) := ⟨peImp h.p fun σ H Q ⟨G, ρ, F, Q', R, q, c⟩ => ⟨G, ρ, F, _, R, q, fun x ρ1 v H1 F1 h1 R1 s1 d => by
  obtain ⟨ks, rfl, h2⟩ := h1
  obtain ⟨b, rfl, hb⟩ := d.ky_at
  exact c _ _ _ _ _ h2 R1 s1 hb⟩⟩
theorem Grow.keys {us : List (List Key × V)} {bs : List Addr} (h : Same F H) (hk : IsKeys H us bs) : Grow F H (fun b => if b ∈ bs then H b else F b) H := by
  refine ⟨fun b u e => ?_, Same.refl _, fun b u e => ?_, fun b h1 h2 => ?_⟩
  · show (if b ∈ bs then H b else F b) = some u
    by_cases hb : b ∈ bs
    · rw [if_pos hb]; exact h _ _ e
    · rw [if_neg hb]; exact e
  · have e : (if b ∈ bs then H b else F b) = some u := e
    by_cases hb : b ∈ bs
    · rw [if_pos hb] at e; exact e
    · rw [if_neg hb] at e; exact h _ _ e
  · by_cases hb : b ∈ bs
    · right
      show ∃ us, (if b ∈ bs then H b else F b) = _
      rw [if_pos hb]
      clear h1 h2
      unfold IsKeys at hk
      induction hk with
      | nil => cases hb
      | cons a _ ih =>
        rcases List.mem_cons.mp hb with rfl | hb
        · exact ⟨_, a⟩
        · exact ih hb
    · exact absurd (show (if b ∈ bs then H b else F b) = none by rw [if_neg hb]; exact h2) h1
def fTake (i : Nat) : TF := fun ρ Q => match ρ[i]? with
  | some (some (.dt none kvs)) => Q (.dt none kvs) (ρ.set i none)
  | _ => False
theorem LF.take [Pn] (i : Nat) (h : PE X e (tVar i)) : LF X e (fTake i) := ⟨peImp h fun σ H Q ⟨G, ρ, F, Q', R, q, c⟩ => by
  unfold fTake at q
  split at q
  · rename_i kvs er
    obtain ⟨a, es, at_⟩ := R.at_ er rfl
    refine ⟨_, es, c _ _ _ H F q (R.drop i) (Same.refl _) ⟨a, rfl, rfl, at_, R.leave er rfl es⟩⟩
  · exact False.elim q⟩
def fIte (t : TTd) (fa fb : TF) : TF := fun ρ Q => t ρ fun b ρ1 => brB b (fa ρ1 Q) (fb ρ1 Q)
theorem LF.ite [Pn] (h : LT X e c) (h2 : LF X e2 fa) (h3 : LF X e3 fb) : LF X (.IfExp e e2 e3 pos) (fIte c fa fb) := ⟨peImp (pe_ifExp h.p h2.p h3.p) fun σ H Q ⟨G, ρ, F, Q', R, q, k⟩ => ⟨G, ρ, F, _, R, q, fun b ρ1 H1 F1 h1 R1 s1 => by
  cases b with
  | true => exact ⟨G, ρ1, F1, Q', R1, h1.1 rfl, fun x ρ2 v H2 F2 h2 R2 s2 d => k _ _ _ _ _ h2 R2 (s1.trans s2) d⟩
  | false => exact ⟨G, ρ1, F1, Q', R1, h1.2 rfl, fun x ρ2 v H2 F2 h2 R2 s2 d => k _ _ _ _ _ h2 R2 (s1.trans s2) d⟩⟩⟩
end
end DL
namespace DL
open PySem L2 PyProof.Rows
section
variable {G : Gm} {X : Cx} {K : PySem.W.Frag} {F F' F1 F2 H H' H1 : Hp} {ρ ρ1 ρ2 : En} {σ : L2.St} {e e2 e3 o : Expr} {es : List Expr} {pos apos cpos : Pos} {oa ob oc : Op1} {ta tb tc : TD} {ek : TKd} {c : TTd} {v : V} {x : PD} {s k : Nat} {tf : TF}
end
end DL
namespace DL
open PySem L2 PyProof.Rows
section
variable {G : Gm} {X : Cx} {K : PySem.W.Frag} {F F' F1 F2 H H' H1 : Hp} {ρ ρ1 ρ2 : En} {σ σ1 : L2.St} {e e2 e3 tg : Expr} {td : TE} {pos p : Pos} {oa : Op1} {s : Nat} {v : V} {x : PD} {tt : TAd}
theorem Grow.one {us : List V} {q : Addr} (h : Same F H) (hq : H q = some (.tup us)) : Grow F H (fun b => if b = q then H b else F b) H := by
  refine ⟨fun b u e => ?_, Same.refl _, fun b u e => ?_, fun b h1 h2 => ?_⟩
  · show (if b = q then H b else F b) = some u
    by_cases hb : b = q
    · rw [if_pos hb]; exact h _ _ e
    · rw [if_neg hb]; exact e
  · have e : (if b = q then H b else F b) = some u := e
    by_cases hb : b = q
    · rw [if_pos hb] at e; exact e
    · rw [if_neg hb] at e; exact h _ _ e
  · by_cases hb : b = q
    · right
      show ∃ us, (if b = q then H b else F b) = _
      rw [if_pos hb, hb]; exact ⟨_, hq⟩
    · exact absurd (show (if b = q then H b else F b) = none by rw [if_neg hb]; exact h2) h1
end
end DL
namespace DL
open PySem L2 PyProof.Rows StX
section
variable {G : Gm} {X : Cx} {K : PySem.W.Frag} {F F' H H' : Hp} {ρ : En} {σ : L2.St} {e e2 o : Expr} {es : List Expr} {pos p2 : Pos} {oa ob : Op1} {ta tb : TD} {tf : TF} {v : V} {x : PD} {C : Addr} {nm : Str}
def getF (f : Str) : List (Str × PD) → Option PD
  | [] => none
  | (g, y) :: r => if g = f then some y else getF f r
def noNs (f : Str) : List (Str × Addr × List PD) → Bool
  | [] => true
  | (g, _) :: r => !(decide (g = f)) && noNs f r
theorem kv_skip : ∀ {us : List (Str × V)} {fs : List (Str × PD)} {r : List (Str × V)}, DKv K F us fs → noF nm fs = true → (us ++ r).lookup nm = r.lookup nm
  | [], fs, r, h, e => by cases h; rfl
  | (k, u) :: us, fs, r, h, e => by
    cases h with
    | @cons _ q _ ds a b =>
      obtain ⟨k', d⟩ := q
      obtain ⟨a1, a2⟩ := a
      have a1 : k = k' := a1
      subst a1
      unfold noF at e
      rw [Bool.and_eq_true] at e
      have hk : k ≠ nm := by simpa using e.1
      have nb : (nm == k) = false := beq_eq_false_iff_ne.mpr (Ne.symm hk)
      simp only [List.cons_append, List.lookup, nb]
      exact kv_skip b e.2
theorem ns_look {b : Addr} {xs : List PD} : ∀ {ns : List (Str × Addr × List PD)}, getN nm ns = some (b, xs) → (ns.map fun n => (n.1, V.ref n.2.1)).lookup nm = some (.ref b)
  | (g, z) :: r, h => by
    unfold getN at h
    by_cases e : g = nm
    · rw [if_pos e] at h; cases h; subst e; simp [List.lookup]
    · rw [if_neg e] at h
      have nb : (nm == g) = false := beq_eq_false_iff_ne.mpr (Ne.symm e)
      simp only [List.map_cons, List.lookup, nb]
      exact ns_look h
theorem ns_none : ∀ {ns : List (Str × Addr × List PD)}, noNs nm ns = true → (ns.map fun n => (n.1, V.ref n.2.1)).lookup nm = none
  | [], _ => rfl
  | (g, z) :: r, h => by
    unfold noNs at h
    rw [Bool.and_eq_true] at h
    have hk : g ≠ nm := by simpa using h.1
    have nb : (nm == g) = false := beq_eq_false_iff_ne.mpr (Ne.symm hk)
    simp only [List.map_cons, List.lookup, nb]
    exact ns_none h.2
theorem Rel.nb_at [Pn] {s : Nat} {p : Option Nat} {fs : List (Str × PD)} {ns : List (Str × Addr × List PD)} (R : Rel K G ρ F σ H) (er : ρ[s]? = some (some (.nb p C fs ns))) : ∃ a dx u1, σ[s]? = some (some (.ref a)) ∧ H a = some (.ins C dx (u1 ++ ns.map fun n => (n.1, V.ref n.2.1))) ∧ DKv K F u1 fs ∧ (ns.map fun n => n.2.1).Nodup := by
  obtain ⟨a, es, nf, ow, o, eo, ok⟩ := R.at_ er rfl
  cases o <;> first | exact False.elim ok | skip
  obtain ⟨rfl, ⟨u1, rfl, h3⟩, h4⟩ := ok
  exact ⟨a, _, u1, es, eo, h3, h4⟩
theorem tFld_n [Pn] {s : Nat} {p : Option Nat} {fs : List (Str × PD)} {ns : List (Str × Addr × List PD)} {b : Addr} {xs : List PD} {Q : VK} (hc : Cls K C) (hn : NoAttr K C nm) (R : Rel K G ρ F σ H) (er : ρ[s]? = some (some (.nb p C fs ns))) (hf : noF nm fs = true) (hg : getN nm ns = some (b, xs)) (q : Q (.ref b) H) : tFld K (tVar s) nm σ H Q := by
  obtain ⟨a, dx, u1, es, ea, d, _⟩ := R.nb_at er
  exact ⟨_, es, a, _, dx, _, _, rfl, ea, hc, hn, by rw [kv_skip d hf]; exact ns_look hg, q⟩
theorem LO.f [Pn] {s : Nat} (hc : Cls X.K C) (hn : NoAttr X.K C nm) (h : PE X e (tVar s)) (hb : attributeBase e nm X.env (eval e X.env) = eval e X.env := by rfl) : LO X (.Attribute e nm pos) (.f C s nm) :=
  ⟨peImp (pe_fld h hb) fun σ H Q ⟨G, ρ, F, Q', R, q, c⟩ => by
    dsimp only [Op1.run] at q
    split at q
    · rename_i p B fs ns er
      obtain ⟨rfl, hf, q⟩ := q
      split at q
      · rename_i b xs hg
        exact tFld_n hc hn R er hf hg (c _ _ _ _ _ q R (Same.refl _) rfl)
      · exact False.elim q
    · exact False.elim q⟩
end
end DL
namespace DL
open PySem L2 PyProof.Rows StX
section
variable {G : Gm} {X : Cx} {K : PySem.W.Frag} {F F' H H' : Hp} {ρ : En} {σ : L2.St} {o e e2 i : Expr} {es : List Expr} {pos p2 apos : Pos} {ta ti tv : TD} {tt : TAd} {tf : TF} {v : V} {x : PD} {C : Addr} {m : Str} {k s : Nat} {ps : List Str} {u : Xd → En → Prop}
def goC (S : FSpec) (as : List AV) (ρ : En) (Q : Lc → En → Prop) : Prop := match argsAt ρ as 0 with
  | some (args, is) => nodupB is = true ∧ S.sp args fun r outs => putF ρ ρ is outs fun ρ2 => Q r ρ2
  | none => False
theorem goC_of [Pn] {S : FSpec} {as : List AV} {vs : List V} {Q : VK} {Q' : Lc → En → Prop} {E : XK} (R : Rel K G ρ F σ H) (av : AvA K F σ as vs) (h : goC S as ρ Q') (c : ∀ l ρ' v H' F', Q' l ρ' → Rel K G ρ' F' σ H' → Same F F' → RsOk K G F' H' ρ' σ l v → Q v H') : liftC K S vs H Q E := by
  unfold goC at h
  split at h
  · rename_i args is ea
    obtain ⟨hn, h⟩ := h
    obtain ⟨ios, p3, io, back⟩ := callIo R av ea (nodup_of hn)
    refine ⟨args, F, ios, is.length, _, R.fh, p3, io, h, fun r outs v F' H' q' P => ?_⟩
    obtain ⟨R2, r2⟩ := back P
    have q2 := q'
    change putF _ _ _ _ _ at q2
    rw [putF_eq] at q2
    exact c _ _ _ _ _ q2 R2 P.ff r2
  · exact False.elim h
def isO (C : Addr) (m : Str) (ρ : En) (s : Nat) (k : Prop) : Prop := match ρ[s]? with
  | some (some (.nb _ B fs ns)) => B = C ∧ noF m fs = true ∧ noNs m ns = true ∧ k
  | _ => False
theorem isO_of [Pn] {kk : Prop} (R : Rel K G ρ F σ H) (h : isO C m ρ s kk) : kk ∧ ∃ a dx us, σ[s]? = some (some (.ref a)) ∧ H a = some (.ins C dx us) ∧ us.lookup m = none := by
  unfold isO at h
  split at h
  · rename_i p B fs ns er
    obtain ⟨rfl, h1, h2, h3⟩ := h
    obtain ⟨a, dx, u1, es, ea, d, _⟩ := R.nb_at er
    exact ⟨h3, a, dx, _, es, ea, by rw [kv_skip d h1]; exact ns_none h2⟩
  · exact False.elim h
structure LenC (K : PySem.W.Frag) (C f : Addr) : Prop where
  at_ : PySem.W.findIn K (.ref C) "__len__" = some (some (.ref f))
  fn : PySem.W.isFn K (.ref f) = true
def dLenS (C : Addr) (S : FSpec) (s : Nat) : TD := fun ρ Q => isO C "" ρ s (goC S [.s s] ρ fun l ρ1 => ∃ n : Nat, l = .d (.int n) ∧ n < 1000000 ∧ Q (.int n) ρ1)
def rLenO (X : Cx) (C : Addr) (sp : Sp) : List V → Hp → VK → Prop := fun xs H Q => ∃ a dx us, xs = [V.ref a] ∧ H a = some (.ins C dx us) ∧ sp [.ref a] H (fun v H2 => ∃ n : Nat, v = .int n ∧ n < 1000000 ∧ Q (.int n) H2) E0
theorem cr_lenO {S : FSpec} {f : Addr} {fd : FuncData} (lc : LenC X.K C f) (Gd : FnG X.prog X.w X.K X.mg X.base CX0 k f fd ps (liftC X.K S)) (hr : Room (k + 1) X.A) (hgd : X.A.guards = some []) (hb : Binds X.K fd ps []) : CallR X (.builtin "len") (rLenO X C (liftC X.K S)) := by
  intro pins s σ H xs us Q I r h
  obtain ⟨a, dx, fs, rfl, ea, h⟩ := h
  obtain ⟨u, rfl, rx⟩ := vals1 r
  obtain rfl : u = Value.ref a := rx
  obtain ⟨mA, J, _⟩ := ins_get I.hok ea
  obtain ⟨od, J, _⟩ := J.look
  refine Calls.call_function_entry kind_len plain_len entry_len (args_len1 _) ?_
  unfold Builtin.«len»
  refine wpAny_bind (m := oneArg "len" _) (wpAny_pure ?_)
  refine wpAny_bind (m := callSpecial? (.ref a) (Str.ofString "__len__")) (PySem.W.special_fn I.kIn J lc.at_ (beq_iff_eq.mp lc.fn) (wpAny_mono (runIn (us := [.ref a]) (vs := [V.ref a]) Gd hr hgd hb I (.cons rfl .nil) h) (fun v s' hz => ?_) fun _ _ e => e))
  obtain ⟨v', H', I', rv, n, rfl, hn, q⟩ := hz
  obtain ⟨t, rfl⟩ := rv
  refine wpAny_bind (wpAny_holding (wpAny_pure ?_))
  refine wpAny_bind (wpAny_letGo ?_)
  show wpAny _ _ (if ((n : Nat) : Int) < 0 then _ else _) _ _ _
  rw [if_neg (by omega)]
  show wpAny _ _ (if ((n : Nat) : Int) ≥ 2 ^ 63 then _ else _) _ _ _
  rw [if_neg (by omega)]
  exact wpAny_bind (wpAny_mkInt (wpAny_pure ⟨_, rfl, .int n, H', I'.tok _, ⟨_, rfl⟩, q⟩))
theorem LD.lenS [Pn] {S : FSpec} {p p3 : Pos} (c : CalR X.prog X.w X.K X.mg X.base k (LenC X.K C) ps S) (hr : Room (k + 1) X.A) (hgd : X.A.guards = some []) (hg : Gl X "len") (hm : X.mg "len" = none) (hv : bootBuiltins "len" = some (.builtin "len")) (ho : PE X o (tVar s)) (hs : starEach [o] X.env = (false, eval o X.env) :: starEach [] X.env := by rfl) (hpl : (backTo p3 (starEach [] X.env)).any (·.1) = false := by rfl) : LD X (.Call (.Name "len" p) [o] [] p3) (dLenS C S s) := by
  obtain ⟨f, fd, Gd, lc, hb⟩ := c.ex
  refine ⟨peImp (pe_callB (t := tCons (tVar s) tNil) (cr_lenO lc Gd hr hgd hb) hg hm hv (pa_cons ho pa_nil hs) (by decide) (by decide) hs hpl) fun σ H Q ⟨G, ρ, F, Q', R, q, c⟩ => ?_⟩
  obtain ⟨q, a, dx, us, es, ea, _⟩ := isO_of R q
  refine ⟨_, es, a, dx, us, rfl, ea, goC_of R (.cons (a := .s s) es .nil) q fun l ρ' v H' F' hq R' s' r => ?_⟩
  obtain ⟨n, rfl, hn, hq⟩ := hq
  have r : Df X.K F' v (.int n) := r
  cases r
  exact ⟨n, rfl, hn, c _ _ _ _ _ hq R' s' (.int _)⟩
end
end DL
namespace DL
open PySem L2 PyProof.Rows StX
section
variable {G : Gm} {X : Cx} {K : PySem.W.Frag} {F F' H H' : Hp} {ρ : En} {σ : L2.St} {o e e2 i : Expr} {es : List Expr} {pos p2 apos : Pos} {ta ti tv : TD} {tt : TAd} {tf : TF} {oa : Op1} {v : V} {x : PD} {C : Addr} {m : Str} {k s j : Nat} {ps : List Str} {u : Xd → En → Prop}
end
end DL
namespace DL
open PySem L2 PyProof.Rows StX
section
variable {G : Gm} {X : Cx} {K : PySem.W.Frag} {F F' H H' : Hp} {ρ : En} {σ : L2.St} {o e e2 o2 ei : Expr} {es : List Expr} {pos p2 apos : Pos} {ta ti tv : TD} {tt : TAd} {tf : TF} {oa : Op1} {v : V} {x : PD} {C : Addr} {nm : Str} {k s j : Nat}
end
end DL
namespace DL
open PySem L2 PyProof.Rows StX
section
variable {X : Cx} {K : PySem.W.Frag} {F H : Hp}
def bIntS : FN
  | [.str z], k => ∃ n, PySem.intText? z = some n ∧ z.length ≤ 640 ∧ k (.int n)
  | _, _ => False
theorem ok_intS : BiOk K bIntS (fun xs H Q => ∃ a n, xs = [.str a] ∧ PySem.intText? a = some n ∧ a.length ≤ 640 ∧ Q (.int n) H) := by
  intro F H vs xs k Q s d h c
  unfold bIntS at h
  split at h
  · obtain ⟨v, rfl, d1⟩ := d.one
    rw [d1.str]
    obtain ⟨n, h1, h2, h3⟩ := h
    exact ⟨_, n, rfl, h1, h2, c _ _ F H h3 (Grow.refl s) (.int _)⟩
  · exact False.elim h
end
end DL
namespace DL
open PySem L2 PyProof.Rows PySem.Builtin PySem.Builtin.Str
section
variable {prog : Program} {w : World} {A : Around} {E : Value → Shared → Prop} {s : Shared} {a : Int} {t : Tok}
end
section
variable {X : Cx} {K : PySem.W.Frag}
end
end DL
namespace DL
open PySem L2 PyProof.Rows PySem.Builtin PySem.Builtin.Str
def repS (x : PySem.Str) (n : Int) : PySem.Str := if x.length = 0 then x else ⟨(List.replicate n.toNat x.cps).foldl (· ++ ·) #[]⟩
theorem fold_size (a : Array Nat) : ∀ (k : Nat) (b : Array Nat), ((List.replicate k a).foldl (· ++ ·) b).size = b.size + k * a.size
  | 0, b => by simp
  | k + 1, b => by
    rw [List.replicate_succ, List.foldl_cons, fold_size a k, Array.size_append, Nat.succ_mul]
    omega
theorem fold_list (a : Array Nat) : ∀ (k : Nat) (b : Array Nat), ((List.replicate k a).foldl (· ++ ·) b).toList = b.toList ++ (List.replicate k a.toList).flatten
  | 0, b => by simp
  | k + 1, b => by
    rw [List.replicate_succ, List.foldl_cons, fold_list a k, Array.toList_append, List.replicate_succ, List.flatten_cons, List.append_assoc]
section
variable {X : Cx} {K : PySem.W.Frag}
def rRepS : R2 := fun x y H Q => ∃ a n, x = .str a ∧ y = .int n ∧ (2 ≤ n ∧ n ≤ 1000 ∧ a.length ≤ 1000) ∧ Q (.str (repS a n)) H
theorem op_repS : OpR X (binaryOp .Mult) rRepS := by
  intro pins s σ H x y u v Q I rx ry ⟨a, n, ex, ey, ⟨n1, n2, ha⟩, q⟩
  subst ex ey
  obtain ⟨t1, rfl⟩ := rx
  obtain ⟨t2, rfl⟩ := ry
  have sz : sizeLine = 16777216 := sizeLine_eq
  have h1 : ¬ n < 1 := by omega
  have h2 : (n == 1) = false := by rw [beq_eq_false_iff_ne]; omega
  have le : ((List.replicate n.toNat a.cps).foldl (· ++ ·) #[]).size = n.toNat * a.length := by
    rw [fold_size]
    show 0 + _ = _
    rw [Nat.zero_add]; rfl
  have m1 : n.toNat * a.length ≤ 1000 * 1000 := Nat.mul_le_mul (by omega) ha
  have m2 : a.length * n.toNat ≤ 1000 * 1000 := Nat.mul_le_mul ha (by omega)
  refine PySem.P.mul_str ?_ (fun _ _ => ?_) (fun _ _ => ?_) ?_
  · rw [decide_eq_false (by omega), decide_eq_false (by omega)]; rfl
  · have m3 : (a.length : Int) * n ≤ 1000 * 1000 := Int.mul_le_mul (by omega) n2 (by omega) (by decide)
    have : (a.length : Int) ≤ (2 ^ 63 - 1) / n := Int.le_ediv_of_mul_le (by omega) (Int.le_trans m3 (by decide))
    omega
  · unfold tooLong
    simp
    omega
  · rw [if_neg h1, h2, Bool.false_or]
    unfold repS at q
    by_cases h0 : a.length = 0
    · rw [if_pos h0] at q
      have e0 : (a.length == 0) = true := by rw [h0]; rfl
      rw [if_pos e0]
      exact ⟨.str a, H, I, ⟨_, rfl⟩, q⟩
    · rw [if_neg h0] at q
      have e0 : (a.length == 0) = false := by rw [beq_eq_false_iff_ne]; exact h0
      rw [if_neg (by rw [e0]; exact Bool.false_ne_true)]
      refine ⟨?_, .str _, H, I.tok _, ⟨_, rfl⟩, q⟩
      show ((List.replicate n.toNat a.cps).foldl (· ++ ·) #[]).size ≤ _
      rw [le]; omega
def bRepS : F2
  | .str x, .int n, k => (2 ≤ n ∧ n ≤ 1000 ∧ x.length ≤ 1000) ∧ k (.str (repS x n))
  | _, _, _ => False
theorem ok_repS : Op2Ok K bRepS rRepS := by
  intro F H vx vy x y k Q s dx dy h c
  unfold bRepS at h
  split at h
  · rw [dx.str, dy.int]
    exact ⟨_, _, rfl, rfl, h.1, c _ _ F H h.2 (Grow.refl s) (.str _)⟩
  · exact False.elim h
end
end DL
namespace L2
open PySem PySem.Spec PyProof.Rows
theorem keys_pairs {H : Hp} : ∀ {kvs : List (List Key × V)} {bs : List Addr}, IsKeys H kvs bs → (∀ p ∈ kvs, ∃ i j : Int, p.1 = [Sum.inl i, Sum.inl j]) → ∀ b ∈ bs, ∃ i j : Int, H b = some (.tup [.int i, .int j]) := by
  intro kvs bs ik
  unfold IsKeys at ik
  induction ik with
  | nil => intro _ b hb; cases hb
  | cons a _ ih =>
    intro hk b hb
    rcases List.mem_cons.mp hb with rfl | hb
    · obtain ⟨i, j, e⟩ := hk _ List.mem_cons_self
      rw [e] at a
      exact ⟨i, j, a⟩
    · exact ih (fun p hp => hk p (List.mem_cons_of_mem _ hp)) b hb
section
variable {X : Cx}
theorem call_sorted_dT (hc : X.calm = true) : CallR X (.builtin "sorted") (fun xs H Q => ∃ (d : Addr) (kvs : List (List Key × V)), xs = [V.ref d] ∧ Rd H d (.dT kvs) ∧ (∀ p ∈ kvs, ∃ i j : Int, p.1 = [Sum.inl i, Sum.inl j]) ∧
    ∀ (p : Addr) (bs : List Addr) (k : V → Int × Int) (ys : List V), H p = none → IsKeys H kvs bs → (∀ t i j, H t = some (.tup [.int i, .int j]) → k (.ref t) = (i, j)) → SrtO.Srtd (ltP k) ys → SrtO.Stb (ltP k) ys (bs.map V.ref) → Q (.ref p) (upd H p (.lst ys))) := by
  intro pins s σ H xs us Q I r h
  obtain ⟨d, kvs, rfl, hd, hk2, q⟩ := h
  obtain ⟨u, rfl, rx⟩ := r.one
  cases rx
  obtain ⟨z, hs, ks, pr, o, es, ep, ho, hx, hdt, he, hn⟩ := (show ObjOk X.prog X.w H s.heap d (.dT kvs) from hd.ok I.hok)
  have l1 : es.size = ks.length := size_of_entries he
  have l2 : kvs.length = ks.length := Paired.length pr
  obtain ⟨bs, ebs⟩ : ∃ bs, bs = ks.map fun x => x.2.1 := ⟨_, rfl⟩
  have ik : IsKeys H kvs bs := by rw [ebs]; exact isKeys_of pr
  have l3 : bs.length = ks.length := by rw [ebs, List.length_map]
  have kp2 := keys_pairs ik hk2
  classical
  obtain ⟨k, hk⟩ : ∃ k : V → Int × Int, ∀ t i j, H t = some (.tup [.int i, .int j]) → k (.ref t) = (i, j) := by
    refine ⟨fun v => match v with
      | .ref t => if g : ∃ p : Int × Int, H t = some (.tup [.int p.1, .int p.2]) then g.choose else (0, 0)
      | _ => (0, 0), fun t i j e => ?_⟩
    have gg : ∃ p : Int × Int, H t = some (.tup [.int p.1, .int p.2]) := ⟨(i, j), e⟩
    show (if g : ∃ p : Int × Int, H t = some (.tup [.int p.1, .int p.2]) then g.choose else (0, 0)) = (i, j)
    rw [dif_pos gg]
    have c := gg.choose_spec
    generalize gg.choose = w at c
    rw [e] at c
    have c := HO.tup.inj (Option.some.inj c)
    have c1 := V.int.inj (List.cons.inj c).1
    have c2 := V.int.inj (List.cons.inj (List.cons.inj c).2).1
    exact Prod.ext c1.symm c2.symm
  refine Calls.call_function_entry PyProof.Rows.kind_sorted PyProof.Rows.plain_sorted PyProof.Rows.entry_sorted (PyProof.Rows.args_sorted1 _) ?_
  unfold Builtin.«sorted»
  refine wpAny_bind (m := checkCount "sorted" 1 1 _) (wpAny_pure ?_)
  refine wpAny_bind (PySem.W.kdu_collect (A := X.A.in1) (kdl_raw hs hx hdt) (I.ok.hd hc) ho (by omega) fun h' tk acc kp it => ?_)
  have eb : acc.toList = bs.map Value.ref := by
    have hl : acc.toList.length = ks.length := by rw [Array.length_toList, it.1]; exact l1
    rw [ebs, List.map_map]
    apply List.ext_getElem?
    intro j
    rw [List.getElem?_map]
    cases hj : acc.toList[j]? with
    | none =>
      have h1 := List.getElem?_eq_none_iff.mp hj
      rw [List.getElem?_eq_none (by omega)]
      all_goals rfl
    | some v =>
      obtain ⟨en, hen, hv⟩ := it.2 j v (by rw [← Array.getElem?_toList]; exact hj)
      have qe := entry_at he j
      rw [hen] at qe
      cases hb : ks[j]? with
      | none =>
        rw [hb] at qe
        exact nomatch (show some en = none from qe)
      | some b =>
        rw [hb] at qe
        have e2 : en = entryOfKey (tupleKind (mixKind X.prog X.w)) b := Option.some.inj qe
        rw [hv, e2]
        all_goals rfl
  have I1 : Inv X pins σ H { s with heap := h', toks := tk } := I.kept kp
  obtain ⟨al, eal⟩ : ∃ al, al = acc.toList := ⟨_, rfl⟩
  rw [← eal]
  rw [← eal] at eb
  have hal : al.length ≤ sizeLine := by rw [eb, List.length_map]; omega
  refine wpAny_bind (wpAny_newList ?_ hal)
  have hoL : (h'.push (seqObj "list" al.toArray 0)).get? h'.objs.size = some (seqObj "list" al.toArray 0) := Heap.get?_push_size _ rfl
  show wpAny _ _ _ _ _ { s with heap := h'.push (seqObj "list" al.toArray 0), toks := tk }
  have hp : ∀ v ∈ al, Srt.IsPair (h'.push (seqObj "list" al.toArray 0)) v (k (backV v)).1 (k (backV v)).2 := fun v hv => by
    rw [eb] at hv
    obtain ⟨b, hbm, rfl⟩ := List.mem_map.mp hv
    obtain ⟨i, j, ht⟩ := kp2 b hbm
    have ek : k (backV (Value.ref b)) = (i, j) := hk b i j ht
    rw [ek]
    obtain ⟨_, its2, r2, o2, ho2, hc2, n2, hd2⟩ := I1.hok _ _ ht
    obtain ⟨u1, u2, rfl, ri, rj⟩ := vals2 r2
    obtain ⟨t1, rfl⟩ := ri
    obtain ⟨t2, rfl⟩ := rj
    exact ⟨b, o2, t1, t2, n2, rfl, Heap.get?_push_of_some _ ho2, hc2, hd2⟩
  refine wpAny_bind (wpAny_holding (wpAny_call_entry PyProof.Rows.slot_list_sort ⟨_, hoL, rfl⟩ PyProof.Rows.entry_list_sort
    (SrtO.list_sort_ord (s := { s with heap := h'.push (seqObj "list" al.toArray 0), toks := tk }) (SrtO.swo_lex fun u => k (backV u)) hoL hal (fun h2 => SrtO.pairs_sortableO (by omega) hp fun o e => ?_) fun out h1 h2 => ⟨_, rfl, ?_⟩) (PyProof.Rows.args_list_sort _)))
  · have e' : some o = some (seqObj "list" al.toArray 0) := e.symm.trans hoL
    cases e'
    intro c
    exact absurd (Value.type.inj c) (by decide)
  · obtain ⟨e', he'⟩ := PyProof.Rows.sortedHeap_at (vs := al) (out := out.toArray) hoL
    have h3 : ∀ u ∈ out, ∃ a, u = Value.ref a := fun u hu => by
      have hu := h2.perm.mem_iff.mp hu
      rw [eb] at hu
      obtain ⟨b, _, rfl⟩ := List.mem_map.mp hu
      exact ⟨b, rfl⟩
    have hbb : SrtO.Stb (ltP k) (out.map backV) (bs.map V.ref) := by
      have h4 := SrtO.Stb.map (ltP_swo k) backV h2
      rw [eb, List.map_map] at h4
      exact h4
    have hlen : (out.map backV).length ≤ sizeLine := by rw [hbb.len, List.length_map]; omega
    refine wpAny_pure ⟨_, rfl, .ref h'.objs.size, upd H h'.objs.size (.lst (out.map backV)), I1.laid (t' := tk) (fun b u e => ?_) (Nat.le_refl _) ⟨hlen, out, e', vals_back h3, he'⟩, rfl, q _ bs k _ (I1.hok.fresh (Nat.le_refl _)) ik hk (SrtO.srtd_map h1) hbb⟩
    have hb : b < h'.objs.size := Heap.lt_size e
    rw [PyProof.Rows.sortedHeap_old (Nat.ne_of_lt hb) (by rw [size_push']; exact Nat.lt_succ_of_lt hb)]
    exact Heap.get?_push_of_some _ e
end
end L2
namespace DL
open PySem L2 PyProof.Rows
section
variable {G : Gm} {X : Cx} {K : PySem.W.Frag} {F F' F1 F2 H H' H1 : Hp} {ρ ρ1 ρ2 : En} {σ : L2.St} {e : Expr} {p pos : Pos} {s : Nat} {x : Str}
def prK (p : P2) : List Key := [Sum.inl p.1, Sum.inl p.2]
def dSortT (s : Nat) : TD := fun ρ Q => match ρ[s]? with
  | some (some (.dt _ kvs)) => ∃ ps : List P2, kvs.map (·.1) = ps.map prK ∧ ∀ qs : List P2, qs.Perm ps → qs.Pairwise lexLe → Q (.list (qs.map prI)) ρ
  | _ => False
theorem keys_map {k : V → Int × Int} (hk : ∀ t i j, H t = some (.tup [.int i, .int j]) → k (.ref t) = (i, j)) : ∀ {us : List (List Key × V)} {bs : List Addr} {ps : List P2}, IsKeys H us bs → us.map (·.1) = ps.map prK → (bs.map V.ref).map k = ps := by
  intro us bs ps ik
  unfold IsKeys at ik
  induction ik generalizing ps with
  | nil =>
    intro e
    cases ps with
    | nil => rfl
    | cons a b => cases e
  | cons a _ ih =>
    intro e
    cases ps with
    | nil => cases e
    | cons q ps =>
      rw [List.map_cons, List.map_cons] at e
      have e1 := (List.cons.inj e).1
      rw [List.map_cons, List.map_cons, ih (List.cons.inj e).2]
      rw [e1] at a
      rw [hk _ _ _ a]
theorem dfa_all {k : V → P2} : ∀ {ys : List V}, (∀ y ∈ ys, Df K F y (prI (k y))) → DfA K F ys ((ys.map k).map prI)
  | [], _ => .nil
  | y :: ys, h => .cons (h y List.mem_cons_self) (dfa_all fun z hz => h z (List.mem_cons_of_mem _ hz))
theorem DKv.keysT {us : List (List Key × V)} {kvs : List (List Key × PD)} (h : DKv K F us kvs) : us.map (·.1) = kvs.map (·.1) := by
  unfold DKv at h
  induction h with
  | nil => rfl
  | cons a _ ih => rw [List.map_cons, List.map_cons, ih, a.1]
theorem LD.sortT [Pn] (hc : X.calm = true) (hg : Gl X x) (hm : X.mg x = none) (hv : bootBuiltins x = some (.builtin "sorted")) (ho : PE X e (tVar s)) (hn : x ≠ "__name__" := by decide) (hdb : (x == ("__debug__" : Str)) = false := by decide)
    (he : starEach [e] X.env = (false, eval e X.env) :: starEach [] X.env := by rfl) (hpl : (backTo pos (starEach [] X.env)).any (·.1) = false := by rfl) : LD X (.Call (.Name x p) [e] [] pos) (dSortT s) :=
  ⟨peImp (pe_callB (call_sorted_dT hc) hg hm hv (pa_cons ho pa_nil he) hn hdb he hpl) fun σ H Q ⟨G, ρ, F, Q', R, q, c⟩ => by
    unfold dSortT at q
    split at q
    · rename_i p0 kvs er
      obtain ⟨a, us, es, ea, ok⟩ := own_dt R er
      obtain ⟨ps, hk, q⟩ := q
      have hk' : us.map (·.1) = ps.map prK := by rw [ok.keysT, hk]
      refine ⟨_, es, a, us, rfl, .inl ea, fun u hu => ?_, fun p bs k ys hp ik hkk h1 h2 => ?_⟩
      · have : u.1 ∈ ps.map prK := by rw [← hk']; exact List.mem_map.mpr ⟨u, hu, rfl⟩
        obtain ⟨w, _, ew⟩ := List.mem_map.mp this
        exact ⟨w.1, w.2, ew.symm⟩
      · have g1 := Grow.keys R.fh ik
        have g2 := Grow.frozen g1.fh hp (.lst ys)
        have ek := keys_map hkk ik hk'
        have pm : (ys.map k).Perm ps := by rw [← ek]; exact h2.perm.map k
        have pw : (ys.map k).Pairwise lexLe := by
          rw [List.pairwise_map]
          refine List.Pairwise.imp (fun {v w} g => ?_) h1
          have g : SrtO.lexB (k w) (k v) = false := g
          have g := SrtO.lexB_no.mp g
          unfold lexLe
          omega
        refine c _ ρ _ _ _ (q _ pm pw) ((R.grow g1).grow g2) (g1.ff.trans g2.ff) (.lst (.inl upd_same) (DfA.mono g2.ff (dfa_all fun y hy => ?_)))
        have hy := h2.perm.mem_iff.mp hy
        obtain ⟨b, hb, rfl⟩ := List.mem_map.mp hy
        obtain ⟨i, j, ht⟩ := keys_pairs ik (fun u hu => by
          have : u.1 ∈ ps.map prK := by rw [← hk']; exact List.mem_map.mpr ⟨u, hu, rfl⟩
          obtain ⟨w, _, ew⟩ := List.mem_map.mp this
          exact ⟨w.1, w.2, ew.symm⟩) b hb
        rw [hkk _ _ _ ht]
        refine .tup (xs := [.int i, .int j]) (SqT.of ?_) (.cons (.int i) (.cons (.int j) .nil))
        show (if b ∈ bs then H b else F b) = _
        rw [if_pos hb, ht]
    · exact False.elim q⟩
end
section
variable {X : Cx} {K : PySem.W.Frag} {F H : Hp}
instance (p q : P2) : Decidable (lexLe p q) := by unfold lexLe; exact inferInstance
theorem op_le2 (hu : X.A.units + 64 < cLine) : OpR X (compareOp .LtE) (rLeT X.K) := op_leT (by omega)
def cLe2 : F2 := fun x y k => ∃ p q : P2, x = .tuple [.int p.1, .int p.2] ∧ y = .tuple [.int q.1, .int q.2] ∧ k (.bool (decide (lexLe p q)))
theorem le2_at (a b c d : Int) : Ob.lexAt (fun j => decide ([a, b].getD j 0 = [c, d].getD j 0)) (fun j => decide ([a, b].getD j 0 ≤ [c, d].getD j 0)) (decide ([a, b].length ≤ [c, d].length)) 0 (min [a, b].length [c, d].length) = decide (lexLe (a, b) (c, d)) := by
  show Ob.lexAt _ _ _ 0 2 = _
  rw [Ob.lexAt_succ, Ob.lexAt_succ, Ob.lexAt_zero]
  show (if decide (a = c) = true then (if decide (b = d) = true then true else decide (b ≤ d)) else decide (a ≤ c)) = decide (a < c ∨ (a = c ∧ b ≤ d))
  by_cases h1 : a = c
  · by_cases h2 : b = d
    · simp [h1, h2]
    · simp [h1, h2]
  · simp only [h1, decide_false, Bool.false_eq_true, if_false, false_and, or_false]
    exact decide_eq_decide.mpr ⟨fun z => by omega, fun z => by omega⟩
theorem ok_le2 : Op2Ok K cLe2 (rLeT K) := by
  rintro F H vx vy x y k Q s dx dy ⟨⟨a, b⟩, ⟨c1, d⟩, rfl, rfl, h⟩ c
  obtain ⟨l, u, v, rfl, h1, da, db⟩ := df_two (Same.refl H) (dx.df s)
  obtain ⟨m, u2, v2, rfl, h2, da2, db2⟩ := df_two (Same.refl H) (dy.df s)
  cases da
  cases db
  cases da2
  cases db2
  refine ⟨l, m, [a, b], [c1, d], rfl, rfl, h1, h2, ?_⟩
  rw [le2_at]
  exact c _ _ F H h (Grow.refl s) (.bl _)
end
end DL
namespace L2
open PySem PySem.Spec PyProof.Rows HT
section
variable {prog : Program} {w : World} {A : Around} {s : Shared} {E : Value → Shared → Prop}
theorem back_parts {sl : Addr} {vl vu vs : Value} {n : Nat} {Q : Int × Int × Nat → Shared → Prop} (hs : s.heap.IsSliceOf sl vl vu vs) (pl : IsPart vl none) (pu : IsPart vu none) (ps : IsPart vs (some (-1))) (h : Q ((n : Int) - 1, -1, n) s) :
    wpAny (model prog w) A (Builtin.Slice.sliceApplied (.ref sl) (pure (n : Int))) Q E s := by
  obtain ⟨o, h1, h2, h3⟩ := id hs
  have key : Builtin.Slice.slicePlaces ((n : Int) - 1) (-1) (-1) = n := by
    unfold Builtin.Slice.slicePlaces
    rw [if_neg (by decide)]
    by_cases z : n = 0
    · subst z; decide
    · rw [if_pos (by omega)]
      have : (- (-1 : Int)) = 1 := by decide
      rw [this, Int.ediv_one]
      omega
  unfold Builtin.Slice.sliceApplied Builtin.Slice.sliceFields
  refine wpAny_bind (wpAny_bind (wpAny_field h1 h3 (x := vl) rfl (wpAny_bind (wpAny_field h1 h3 (x := vu) rfl (wpAny_bind (wpAny_field h1 h3 (x := vs) rfl (wpAny_pure ?_)))))))
  refine wpAny_bind (slicePart_ ps ?_)
  show wpAny _ _ (if ((-1 : Int) == 0) = true then _ else _) _ _ s
  rw [if_neg (by decide)]
  refine wpAny_bind (slicePart_ pl (wpAny_bind (slicePart_ pu (wpAny_bind (wpAny_pure (wpAny_pure ?_))))))
  show Q ((n : Int) - 1, -1, Builtin.Slice.slicePlaces ((n : Int) - 1) (-1) (-1)) s
  rw [key]
  exact h
theorem back_pick {α : Type} (l : List α) : ((List.range l.length).filterMap fun (k : Nat) => l.toArray[(((l.length : Nat) : Int) - 1 + (k : Int) * -1).toNat]?) = l.reverse := by
  obtain ⟨f, hf⟩ : ∃ f : Nat → Option α, f = fun (k : Nat) => l.toArray[(((l.length : Nat) : Int) - 1 + (k : Int) * -1).toNat]? := ⟨_, rfl⟩
  have at_ : ∀ k, k < l.length → f k = l[l.length - 1 - k]? := fun k hk => by
    rw [hf]
    show l.toArray[_]? = _
    rw [List.getElem?_toArray, show (((l.length : Nat) : Int) - 1 + (k : Int) * -1).toNat = l.length - 1 - k by omega]
  have this : ∀ n, n ≤ l.length → (List.range n).filterMap f = l.reverse.take n := by
    intro n
    induction n with
    | zero => intro _; rfl
    | succ n ih =>
      intro hn
      rw [List.range_succ, List.filterMap_append, ih (by omega), List.take_add_one, List.getElem?_reverse (by omega)]
      congr 1
      have hx : l.length - 1 - n < l.length := by omega
      have fx := at_ n (by omega)
      rw [List.getElem?_eq_getElem hx] at fx
      rw [List.getElem?_eq_getElem hx, List.filterMap_cons, fx]
      rfl
  have h := this l.length (Nat.le_refl _)
  rw [List.take_of_length_le (by rw [List.length_reverse]; exact Nat.le_refl _)] at h
  rw [← hf]
  exact h
theorem get_back {t sl : Addr} {l : List Value} {vl vu vs : Value} {Q : Value → Shared → Prop} (ht : IsTup s.heap t l.toArray) (hs : s.heap.IsSliceOf sl vl vu vs) (pl : IsPart vl none) (pu : IsPart vu none) (ps : IsPart vs (some (-1)))
    (h : Q (.ref s.heap.objs.size) { s with heap := s.heap.push { cls := .type "tuple", data := .seq l.reverse.toArray } }) (hsz : l.length ≤ sizeLine) : wpAny (model prog w) A (getItem (.ref t) (.ref sl)) Q E s := by
  have fits : sizeOk (.seq l.reverse.toArray) := by
    show l.reverse.toArray.size ≤ sizeLine
    rw [List.size_toArray, List.length_reverse]; exact hsz
  obtain ⟨o, h1, h2, h3⟩ := id hs
  have ty : s.TypeIs (.ref sl) "slice" := ⟨o, h1, h2⟩
  unfold getItem
  try with_reducible refine wpAny_holding ?_
  first | refine wpAny_bind (wpAny_pure ?_) | skip
  refine wpAny_bind (wpAny_sequenceKey ht.typeIs (by decide) (wpAny_bind (wpAny_callSpecial?_slot (name := Str.ofString "__getitem__") ht.typeIs PyProof.Rows.slot_tuple_getitem (wpAny_call_entry PyProof.Rows.slot_tuple_getitem ht.typeIs entry_tuple_getitem ?_ (args_tuple_getitem _ _)))))
  show wpAny _ _ (Builtin.Tuple.tupleItemsOf (.ref t) >>= _) _ _ s
  refine wpAny_bind (tupleItemsOf_ ht (wpAny_bind (wpAny_typeOf ty ?_)))
  rw [if_pos (by decide)]
  refine wpAny_bind (back_parts (n := l.toArray.size) hs pl pu ps ?_)
  have off : ¬ ((((l.toArray.size : Nat) : Int) - 1 == 0 && (-1 : Int) == 1 && l.toArray.size == l.toArray.size) = true) := by
    rw [show ((-1 : Int) == 1) = false from rfl, Bool.and_false, Bool.false_and]; exact Bool.false_ne_true
  show wpAny _ _ (if ((((l.toArray.size : Nat) : Int) - 1 == 0 && (-1 : Int) == 1 && l.toArray.size == l.toArray.size) = true) then _ else _) _ _ s
  rw [if_neg off]
  have pk : (List.range l.toArray.size).filterMap (fun (k : Nat) => l.toArray[(((l.toArray.size : Nat) : Int) - 1 + (k : Int) * -1).toNat]?) = l.reverse := by
    rw [List.size_toArray]; exact back_pick l
  rw [pk]
  first
    | exact wpAny_bind (m := Builtin.Tuple.tupleExact _) (wpAny_newObj_type (wpAny_pure ⟨_, rfl, wpAny_pure h⟩) fits)
    | exact wpAny_bind (m := Builtin.Tuple.tupleExact _) (wpAny_newObj_type (wpAny_bind (wpAny_pure (wpAny_pure ⟨_, rfl, wpAny_pure h⟩))) fits)
    | exact wpAny_bind (wpAny_bind (m := Builtin.Tuple.tupleExact _) (wpAny_newObj_type (wpAny_pure (wpAny_pure ⟨_, rfl, wpAny_pure h⟩)) fits))
    | exact wpAny_bind (wpAny_bind (m := Builtin.Tuple.tupleExact _) (wpAny_newObj_type (wpAny_pure ⟨_, rfl, wpAny_pure h⟩) fits))
end
section
variable {X : Cx}
def tRevT (K : PySem.W.Frag) (te : TE) : TE := fun σ H Q => te σ H fun x H1 => ∃ a xs, x = .ref a ∧ SqT K H1 a xs ∧ ∀ p, H1 p = none → Q (.ref p) (upd H1 p (.tup xs.reverse))
theorem pe_revT {e : Expr} {te : TE} {k : Nat} {p1 p2 p3 pos : Pos} (he : PE X e te) : PE X (.Subscript e (.Slice none none (some (.UnaryOp .USub (.Constant (.int 1) k p1) p2)) p3) pos) (tRevT X.K te) := by
  constructor
  intro pins s σ H Q I h
  refine Subscript_ (thn (he.run pins s σ H _ I h) fun v s1 ⟨x, H1, I1, r1, a, xs, ex, hx, q⟩ => ?_)
  subst ex
  cases r1
  have step : PO X (some (.UnaryOp .USub (.Constant (.int 1) k p1) p2)) (tPart (tUn (rU fun i => .int (-i)) (tC (.int 1)))) := po_some (pe_un un_neg pe_int)
  refine wpAny_Slice (thn (po_none.run pins s1 σ H1 (fun o K2 => o = none ∧ K2 = H1) I1 ⟨rfl, rfl⟩) fun vl s2 ⟨l, H2, I2, pl, el, e2⟩ => thn (po_none.run pins s2 σ H2 (fun o K3 => o = none ∧ K3 = H2) I2 ⟨rfl, rfl⟩) fun vu s3 ⟨u, H3, I3, pu, eu, e3⟩ => thn (step.run pins s3 σ H3 (fun o K4 => o = some (-1) ∧ K4 = H3) I3 ⟨1, rfl, -1, rfl, rfl, rfl⟩) fun vs s4 ⟨o, H4, I4, ps, eo, e4⟩ => ?_)
  subst el e2 eu e3 eo e4
  have I5 : Inv X pins σ H4 { s4 with heap := s4.heap.push { cls := .type "slice", data := .fields #[vl, vu, vs] } } := I4.kept (t' := s4.toks) fun b ob q => Heap.get?_push_of_some _ q
  obtain ⟨its, r, ht, hz⟩ := I5.tuple hx
  have hlen := r.length
  show wpAny (model X.prog X.w) X.A (subscriptTail e (.Slice none none (some (.UnaryOp .USub (.Constant (.int 1) k p1) p2)) p3) (.ref a) (.ref s4.heap.objs.size)) (EP X pins σ Q) X.xe { s4 with heap := s4.heap.push { cls := .type "slice", data := .fields #[vl, vu, vs] } }
  refine tail_any (ops := [.ref a, .ref s4.heap.objs.size]) ht.typeIs (PyProof.Rows.slot_tuple_getitem.lookup) (get_back ht (Heap.IsSliceOf.new _ vl vu vs) pl pu ps ?_ (by omega)) (by with_unfolding_all rfl)
  exact ⟨.ref _, _, I5.laid (t' := s4.toks) (o := .tup xs.reverse) (fun b ob q => Heap.get?_push_of_some _ q) (Nat.le_refl _) ⟨by rw [List.length_reverse]; exact hz, _, r.reverse, ⟨_, Heap.get?_push_size _ rfl, rfl, 0, rfl⟩⟩, rfl, q _ (I5.hok.fresh (Nat.le_refl _))⟩
end
end L2
namespace DL
open PySem L2 PyProof.Rows
section
variable {X : Cx} {e : Expr} {pos : Pos} {oa : Op1}
def dRevT (oa : Op1) : TD := fun ρ Q => oa.run ρ fun a ρ1 => res1 ρ1 a fun x => match x with
  | .tuple xs => Q (.tuple xs.reverse) ρ1
  | _ => False
theorem LD.revT [Pn] {k : Nat} {p1 p2 p3 : Pos} (h : LO X e oa) : LD X (.Subscript e (.Slice none none (some (.UnaryOp .USub (.Constant (.int 1) k p1) p2)) p3) pos) (dRevT oa) :=
  ⟨peImp (pe_revT h.p) fun σ H Q ⟨G, ρ, F, Q', R, q, c⟩ => ⟨G, ρ, F, _, R, q, fun a ρ1 v H1 F1 h1 R1 s1 ax => by
    obtain ⟨x, h2, dx⟩ := res1_dr R1 ax h1
    split at h2
    · obtain ⟨l, us, rfl, hq, d⟩ := dx.tup R1.fh
      refine ⟨l, us, rfl, hq, fun p hp => ?_⟩
      have g := Grow.frozen R1.fh hp (.tup us.reverse)
      exact c _ _ _ _ _ h2 (R1.grow g) (s1.trans g.ff) (.tup (SqT.of upd_same) (d.reverse.mono g.ff))
    · exact False.elim h2⟩⟩
end
end DL
namespace DL
open PySem L2 PyProof.Rows
def Dk (b : Nat) (dk : List PD) : Prop := ∃ (ns : List Int) (a e c : Int), dk = [.list (ns.map .int), .int a, .int e, .int c] ∧ 0 ≤ c ∧ c + b ≤ 2 ^ 40
def S_draw : FSpec := ⟨fun args Q => ∃ (b : Nat) (dk : List PD) (many : Int), args = [.ls (some 0) dk, .d (.int many)] ∧ Dk (b + 1) dk ∧ (0 < many ∧ many.natAbs.log2 < 8000) ∧ ∀ r dk', 0 ≤ r → r < many → Dk b dk' → Q (.d (.int r)) [.ls (some 0) dk']⟩
theorem Dk.mono {b c : Nat} {dk : List PD} (h : Dk b dk) (hc : c ≤ b) : Dk c dk := by
  obtain ⟨ns, a, e, d, rfl, h0, h1⟩ := h
  exact ⟨ns, a, e, d, rfl, h0, by omega⟩
abbrev N_law_draw_a51a : List Str := ["deck", "many", "found", "cell", "mixed"]
def ir_law_draw_a51a : TSt :=
  (sSeq (sSetL 0 (.e (dC (.int 3))) (dBin bAdd (.e (dBin bIx (.s 0) (.e (dC (.int 3))))) (.e (dC (.int 1)))))
    (sSeq (sIf (tVal (dBin cGt (.e (dBin bIx (.s 0) (.e (dC (.int 2))))) (.e (dC (.int 0))))) (sSeq (sAsg 2 (fD (dBin bMod (.e (dBi bInt (aCons (.e (dBin bIx (.s 0) (.e (dC (.int 2))))) aNil))) (.s 1))))
    (sSeq (sSetL 0 (.e (dC (.int 2))) (dBin bFdiv (.e (dBin bIx (.s 0) (.e (dC (.int 2))))) (.s 1)))
    (sRetV 2))) sNext)
    (sSeq (sAsg 3 (fD (dC (.int 47))))
    (sSeq (sIf (tVal (dBin cNe (.e (dBin bIx (.s 0) (.e (dC (.int 0))))) (.e (dFz (fLst aNil))))) (sAsg 3 (fD (dBin bIx (.e (dBin bIx (.s 0) (.e (dC (.int 0))))) (.e (dBin bMod (.e (dBi bInt (aCons (.e (dBin bIx (.s 0) (.e (dC (.int 1))))) aNil))) (.e (dBi bLen (aCons (.e (dBin bIx (.s 0) (.e (dC (.int 0))))) aNil)))))))) sNext)
    (sSeq (sSetL 0 (.e (dC (.int 1))) (dBin bAdd (.e (dBin bIx (.s 0) (.e (dC (.int 1))))) (.e (dC (.int 1)))))
    (sSeq (sIf (tAndD (tVal (dBin cGe (.e (dBi bAbs (aCons (.s 3) aNil))) (.e (dBin bPow (.e (dC (.int 10))) (.e (dC (.int 18))))))) (tVal (dBin cLe (.e (dBin bIx (.s 0) (.e (dC (.int 1))))) (.e (dBi bLen (aCons (.e (dBin bIx (.s 0) (.e (dC (.int 0))))) aNil)))))) (sSeq (sSetL 0 (.e (dC (.int 2))) (dBin bFdiv (.e (dBi bAbs (aCons (.s 3) aNil))) (.s 1)))
    (sRet (fD (dBin bMod (.e (dBi bInt (aCons (.e (dBi bAbs (aCons (.s 3) aNil))) aNil))) (.s 1))))) sNext)
    (sSeq (sAsg 4 (fD (dBin bMod (.e (dBin bPow (.e (dBi bInt (aCons (.e (dBin bAdd (.e (dBin bMod (.e (dBi bInt (aCons (.s 3) aNil))) (.e (dC (.int 2147483587))))) (.e (dBin bMulI (.e (dC (.int 67280423))) (.e (dBin bIx (.s 0) (.e (dC (.int 3))))))))) aNil))) (.e (dC (.int 5))))) (.e (dC (.int 2147483629))))))
    (sSeq (sAsg 4 (fD (dBin bMod (.e (dBin bPow (.e (dBi bInt (aCons (.e (dBin bAdd (.e (dBin bMulI (.s 4) (.e (dBin bAdd (.e (dBin bMulI (.e (dC (.int 2))) (.e (dBin bIx (.s 0) (.e (dC (.int 3))))))) (.e (dC (.int 3))))))) (.e (dC (.int 7919))))) aNil))) (.e (dC (.int 3))))) (.e (dC (.int 2147483563))))))
    (sRet (fD (dBin bMod (.e (dBin bFdiv (.s 4) (.e (dC (.int 32))))) (.s 1))))))))))))
theorem sp_draw : ∀ args Q, S_draw.sp args Q → ir_law_draw_a51a (endsOf args Q) (rho0 N_law_draw_a51a args) := by
  rintro args Q ⟨b, dk, many, rfl, ⟨ns, a, e, c, rfl, h0, h1⟩, ⟨m0, m1⟩, q⟩
  have L : (ns.map PyData.int).length = ns.length := List.length_map _
  have fin : ∀ (dk' : List PD) (r : Int), Dk b dk' → Q (.d (.int (r % many))) [.ls (some 0) dk'] := fun dk' r z => q _ _ (Int.emod_nonneg _ (by omega)) (Int.emod_lt_of_pos _ m0) z
  have dko : ∀ a' e', Dk b [.list (ns.map .int), .int a', .int e', .int (c + 1)] := fun a' e' => ⟨ns, a', e', _, rfl, by omega, by omega⟩
  have nn : ∀ x : Int, (x % 2147483587 + 67280423 * (c + 1)).natAbs < 2 ^ 70 := fun x => by
    have a1 := Int.emod_lt_of_pos x (b := 2147483587) (by decide)
    have a2 := Int.emod_nonneg x (b := 2147483587) (by decide)
    omega
  have nm : ∀ x : Int, (x % 2147483629 * (2 * (c + 1) + 3) + 7919).natAbs < 2 ^ 80 := fun x => by
    have a1 := Int.emod_lt_of_pos x (b := 2147483629) (by decide)
    have a2 := Int.emod_nonneg x (b := 2147483629) (by decide)
    have a3 : x % 2147483629 * (2 * (c + 1) + 3) ≤ 2147483629 * (2 ^ 42) := Int.mul_le_mul (by omega) (by omega) (by omega) (by decide)
    have a4 : 0 ≤ x % 2147483629 * (2 * (c + 1) + 3) := Int.mul_nonneg a2 (by omega)
    omega
  have ab : ∀ x : Int, 0 ≤ (if x < 0 then -x else x) := fun x => by split <;> omega
  have tt : ∀ {x : Int}, x < 2147483629 → 0 ≤ x → x.natAbs < 2 ^ 32 := fun h1 h2 => by omega
  -- deck[3] = deck[3] + 1
  refine ⟨_, rfl, 3, rfl, ?_⟩
  -- deck[2] > 0
  refine ⟨_, rfl, fun g => ?_, fun g => ?_⟩
  · refine ⟨_, rfl, m0, _, rfl, ⟨m0, by omega⟩, 2, rfl, ?_⟩
    exact fin _ _ (dko _ _)
  refine ⟨_, rfl, (Shp.list (n := 0) (Shp.ints ns)).shp, ⟨rfl, rfl⟩, fun g2 => ?_, fun g2 => ?_⟩
  · have hl : 0 < ns.length := by
      cases ns with
      | nil => simp [eqv_nil, Lc.pd] at g2
      | cons x r => simp
    obtain ⟨cell, e1, e2⟩ := atI_some (xs := ns.map PyData.int) (i := a % ((ns.map PyData.int).length : Int)) (Int.emod_nonneg _ (by omega)) (Int.emod_lt_of_pos _ (by omega))
    rw [List.getElem?_map] at e2
    obtain ⟨cell, e3, rfl⟩ := Option.map_eq_some_iff.mp e2
    refine ⟨_, rfl, _, rfl, _, rfl, by rw [L]; omega, _, e1, _, rfl, 1, rfl, ?_⟩
    refine ⟨powOk (k := 4) (m := 18) (by decide) (by decide) (by decide), fun g3 => ⟨_, rfl, _, rfl, fun g4 => ?_, fun g4 => ?_⟩, fun g3 => ⟨nofun, fun g4 => ?_⟩⟩
    · exact ⟨⟨m0, by omega⟩, 2, rfl, m0, fin _ _ (dko _ _)⟩
    all_goals
      refine ⟨by decide, _, rfl, mulOk 30 50 (by decide) (by omega), powOk (k := 70) (m := 5) (nn _) (by decide) (by decide), by decide, _, rfl, mulOk 2 50 (by decide) (by omega), mulOk 32 50 ?_ (by omega), powOk (k := 80) (m := 3) (nm _) (by decide) (by decide), by decide, ⟨by decide, by decide⟩, m0, fin _ _ (dko _ _)⟩
      have a1 := Int.emod_lt_of_pos ((cell % 2147483587 + 67280423 * (c + 1)) ^ 5) (b := 2147483629) (by decide)
      have a2 := Int.emod_nonneg ((cell % 2147483587 + 67280423 * (c + 1)) ^ 5) (b := 2147483629) (by decide)
      exact tt a1 a2
  · refine ⟨_, rfl, 1, rfl, ?_⟩
    refine ⟨powOk (k := 4) (m := 18) (by decide) (by decide) (by decide), fun g3 => ⟨_, rfl, _, rfl, fun g4 => ?_, fun g4 => ?_⟩, fun g3 => ⟨nofun, fun g4 => ?_⟩⟩
    · exact ⟨⟨m0, by omega⟩, 2, rfl, m0, fin _ _ (dko _ _)⟩
    all_goals
      refine ⟨by decide, _, rfl, mulOk 30 50 (by decide) (by omega), powOk (k := 70) (m := 5) (nn _) (by decide) (by decide), by decide, _, rfl, mulOk 2 50 (by decide) (by omega), mulOk 32 50 ?_ (by omega), powOk (k := 80) (m := 3) (nm _) (by decide) (by decide), by decide, ⟨by decide, by decide⟩, m0, fin _ _ (dko _ _)⟩
      have a1 := Int.emod_lt_of_pos ((47 % 2147483587 + 67280423 * (c + 1)) ^ 5) (b := 2147483629) (by decide)
      have a2 := Int.emod_nonneg ((47 % 2147483587 + 67280423 * (c + 1)) ^ 5) (b := 2147483629) (by decide)
      exact tt a1 a2
def S_one : FSpec := ⟨fun args Q => ∃ (b : Nat) (dk xs : List PD), args = [.ls (some 0) dk, .d (.list xs)] ∧ Dk (b + 1) dk ∧ (0 < xs.length ∧ xs.length < 2 ^ 60) ∧ ∀ x dk', x ∈ xs → Dk b dk' → Q (.d x) [.ls (some 0) dk']⟩
abbrev N_law_one_90da : List Str := ["deck", "items"]
def ir_law_one_90da (S_law_draw_a51a : FSpec) : TSt :=
  (sRet (fD (dBin bIx (.s 1) (.e (dFz (fCall S_law_draw_a51a (aCons (.s 0) (aCons (.e (dBi bLen (aCons (.s 1) aNil))) aNil))))))))
theorem sp_one : ∀ args Q, S_one.sp args Q → ir_law_one_90da S_draw (endsOf args Q) (rho0 N_law_one_90da args) := by
  rintro args Q ⟨b, dk, xs, rfl, h1, ⟨h2, h3⟩, q⟩
  have hl : ((xs.length : Nat) : Int).natAbs.log2 < 8000 := by
    have := (Nat.log2_lt (n := xs.length) (k := 60) (by omega)).mpr h3
    rw [Int.natAbs_natCast]; omega
  refine ⟨rfl, b, dk, (xs.length : Nat), rfl, h1, ⟨by omega, hl⟩, fun r dk' h4 h5 h6 => ?_⟩
  obtain ⟨x, e1, e2⟩ := atI_some (xs := xs) h4 h5
  exact ⟨x, e1, q x dk' (List.mem_of_getElem? e2) h6⟩
def S_deck : FSpec := ⟨fun args Q => ∃ ns : List Int, args = [.sc (ns.map .int)] ∧ ns.length ≤ 63 ∧ ∀ dk, Dk (2 ^ 40) dk → Q (.ls none dk) []⟩
abbrev N_law_deck_91e6 : List Str := ["script"]
def ir_law_deck_91e6 : TSt :=
  (sRet (fLst (aCons (.e (dFz (fList (aCons (.e (dSlS 0 pNone (pSome (.e (dC (.int 63)))))) aNil)))) (aCons (.e (dC (.int 0))) (aCons (.e (dC (.int 0))) (aCons (.e (dC (.int 0))) aNil))))))
theorem cut_ints (ns : List Int) (a b : Option Int) : ∃ ms : List Int, cutD (ns.map PyData.int) a b = ms.map PyData.int := by
  unfold cutD
  rw [← List.map_drop, ← List.map_take]
  exact ⟨_, rfl⟩
theorem sp_deck : ∀ args Q, S_deck.sp args Q → ir_law_deck_91e6 (endsOf args Q) (rho0 N_law_deck_91e6 args) := by
  rintro args Q ⟨ns, rfl, h1, q⟩
  obtain ⟨ms, e⟩ := cut_ints ns none (some 63)
  refine .inl (q _ ⟨ms, 0, 0, 0, ?_, by decide, by decide⟩)
  rw [← e]; rfl
end DL
namespace DL
open PySem L2 PyProof.Rows
inductive FT where
  | int (i : Int)
  | x
  | y
  | add (a b : FT)
  | sub (a b : FT)
  | mul (a b : FT)
  | pow (a : FT) (n : Nat)
def FT.pd : FT → PD
  | int i => .int i
  | x => .str "x"
  | y => .str "y"
  | add a b => .tuple [.str "add", a.pd, b.pd]
  | sub a b => .tuple [.str "sub", a.pd, b.pd]
  | mul a b => .tuple [.str "mul", a.pd, b.pd]
  | pow a n => .tuple [.str "pow", a.pd, .int n]
def FT.val (u v : Int) : FT → Int
  | int i => i
  | x => u
  | y => v
  | add a b => a.val u v + b.val u v
  | sub a b => a.val u v - b.val u v
  | mul a b => a.val u v * b.val u v
  | pow a n => a.val u v ^ n
def FT.lev : FT → Nat
  | add a b | sub a b | mul a b => max a.lev b.lev + 1
  | pow a _ => a.lev + 1
  | _ => 1
def FT.e : FT → Nat
  | add a b | sub a b => max a.e b.e
  | mul a b => a.e + b.e
  | pow a n => a.e * max 1 n
  | _ => 1
def FT.le (m : Nat) : FT → Prop
  | int i => i.natAbs < 2 ^ m
  | add a b | sub a b | mul a b => a.le m ∧ b.le m
  | pow a _ => a.le m
  | _ => True
def FT.hasY : FT → Bool
  | y => true
  | add a b | sub a b | mul a b => a.hasY || b.hasY
  | pow a _ => a.hasY
  | _ => false
theorem FT.e_pos : ∀ f : FT, 1 ≤ f.e
  | int _ => Nat.le_refl _
  | x => Nat.le_refl _
  | y => Nat.le_refl _
  | add a b => Nat.le_trans a.e_pos (Nat.le_max_left _ _)
  | sub a b => Nat.le_trans a.e_pos (Nat.le_max_left _ _)
  | mul a b => Nat.le_trans a.e_pos (Nat.le_add_right _ _)
  | pow a n => Nat.mul_pos a.e_pos (by omega)
theorem FT.lev_pos : ∀ f : FT, 1 ≤ f.lev
  | int _ => Nat.le_refl _
  | x => Nat.le_refl _
  | y => Nat.le_refl _
  | add a b => Nat.succ_le_succ (Nat.zero_le _)
  | sub a b => Nat.succ_le_succ (Nat.zero_le _)
  | mul a b => Nat.succ_le_succ (Nat.zero_le _)
  | pow a n => Nat.succ_le_succ (Nat.zero_le _)
theorem two_add {i j : Int} {a b c : Nat} (h1 : i.natAbs < 2 ^ a) (h2 : j.natAbs < 2 ^ b) (ha : a + 1 ≤ c) (hb : b + 1 ≤ c) : (i + j).natAbs < 2 ^ c ∧ (i - j).natAbs < 2 ^ c := by
  obtain ⟨d, rfl⟩ : ∃ d, c = d + 1 := ⟨c - 1, by omega⟩
  have x1 : i.natAbs < 2 ^ d := Nat.lt_of_lt_of_le h1 (Nat.pow_le_pow_right (by decide) (by omega))
  have x2 : j.natAbs < 2 ^ d := Nat.lt_of_lt_of_le h2 (Nat.pow_le_pow_right (by decide) (by omega))
  rw [Nat.pow_succ]
  omega
theorem two_mul {i j : Int} {a b c : Nat} (h1 : i.natAbs < 2 ^ a) (h2 : j.natAbs < 2 ^ b) (h : a + b ≤ c) : (i * j).natAbs < 2 ^ c := by
  rw [Int.natAbs_mul]
  refine Nat.lt_of_lt_of_le ?_ (Nat.pow_le_pow_right (by decide) h)
  rw [Nat.pow_add]
  exact Nat.mul_lt_mul'' h1 h2
theorem two_pow {i : Int} {a : Nat} (h1 : i.natAbs < 2 ^ a) : ∀ {n c : Nat}, a * max 1 n ≤ c → 0 < c → (i ^ n).natAbs < 2 ^ c
  | 0, c, _, h => by
    rw [Int.pow_zero]
    exact Nat.one_lt_two_pow (by omega)
  | 1, c, h, _ => by
    rw [Int.pow_succ, Int.pow_zero, Int.one_mul]
    exact Nat.lt_of_lt_of_le h1 (Nat.pow_le_pow_right (by decide) (by simpa using h))
  | n + 2, c, h, hc => by
    by_cases ha : a = 0
    · subst ha
      have : i = 0 := by
        have : i.natAbs < 1 := by simpa using h1
        omega
      subst this
      rw [Int.zero_pow (by omega)]
      exact Nat.pos_of_ne_zero (by simp)
    · have z : a * max 1 (n + 2) = a * (n + 1) + a := by
        rw [Nat.max_eq_right (by omega), Nat.mul_add, Nat.mul_add]; omega
      rw [z] at h
      rw [Int.pow_succ]
      refine two_mul (two_pow h1 (n := n + 1) (c := a * (n + 1)) (by rw [Nat.max_eq_right (by omega)]; exact Nat.le_refl _) (Nat.mul_pos (by omega) (by omega))) h1 h
theorem FT.small {m : Nat} {u v : Int} (hu : u.natAbs < 2 ^ m) (hv : v.natAbs < 2 ^ m) : ∀ {f : FT}, f.le m → (f.val u v).natAbs < 2 ^ ((f.lev + m) * f.e)
  | int i, h => Nat.lt_of_lt_of_le h (Nat.pow_le_pow_right (by decide) (by simp only [lev, e]; omega))
  | x, _ => Nat.lt_of_lt_of_le hu (Nat.pow_le_pow_right (by decide) (by simp only [lev, e]; omega))
  | y, _ => Nat.lt_of_lt_of_le hv (Nat.pow_le_pow_right (by decide) (by simp only [lev, e]; omega))
  | add a b, h => by
    refine (two_add (small hu hv h.1) (small hu hv h.2) ?_ ?_).1
    · exact sumLe (Nat.le_max_left _ _) (Nat.le_max_left _ _) a.e_pos
    · exact sumLe (Nat.le_max_right _ _) (Nat.le_max_right _ _) b.e_pos
  | sub a b, h => by
    refine (two_add (small hu hv h.1) (small hu hv h.2) ?_ ?_).2
    · exact sumLe (Nat.le_max_left _ _) (Nat.le_max_left _ _) a.e_pos
    · exact sumLe (Nat.le_max_right _ _) (Nat.le_max_right _ _) b.e_pos
  | mul a b, h => by
    refine two_mul (small hu hv h.1) (small hu hv h.2) ?_
    have h1 := Nat.mul_le_mul_right a.e (show a.lev + m ≤ max a.lev b.lev + 1 + m by omega)
    have h2 := Nat.mul_le_mul_right b.e (show b.lev + m ≤ max a.lev b.lev + 1 + m by omega)
    simp only [lev, e, Nat.mul_add]
    omega
  | pow a n, h => by
    refine two_pow (small hu hv (f := a) h) ?_ (Nat.mul_pos (by simp only [lev]; omega) (pow a n).e_pos)
    simp only [lev, e]
    rw [← Nat.mul_assoc]
    exact Nat.mul_le_mul_right _ (Nat.mul_le_mul_right _ (by omega))
where
  sumLe {l l' p p' : Nat} (h1 : l ≤ l') (h2 : p ≤ p') (h3 : 1 ≤ p) : (l + m) * p + 1 ≤ (l' + 1 + m) * p' := by
    have a1 : (l + m) * p ≤ (l' + m) * p' := Nat.mul_le_mul (by omega) h2
    have a2 : (l' + 1 + m) * p' = (l' + m) * p' + p' := by rw [show l' + 1 + m = (l' + m) + 1 by omega, Nat.add_mul, Nat.one_mul]
    omega
def FT.ok (m : Nat) (f : FT) : Prop := f.le m ∧ (f.lev + m) * f.e ≤ 100000
theorem FT.ok.sub1 {m : Nat} {a b : FT} (h : ((a.add b).ok m ∨ (a.sub b).ok m) ∨ (a.mul b).ok m) : a.ok m ∧ b.ok m := by
  have key : a.le m ∧ b.le m ∧ ∃ E, a.e ≤ E ∧ b.e ≤ E ∧ (max a.lev b.lev + 1 + m) * E ≤ 100000 := by
    rcases h with (⟨h1, h2⟩ | ⟨h1, h2⟩) | ⟨h1, h2⟩
    · exact ⟨h1.1, h1.2, max a.e b.e, Nat.le_max_left _ _, Nat.le_max_right _ _, h2⟩
    · exact ⟨h1.1, h1.2, max a.e b.e, Nat.le_max_left _ _, Nat.le_max_right _ _, h2⟩
    · exact ⟨h1.1, h1.2, a.e + b.e, Nat.le_add_right _ _, Nat.le_add_left _ _, h2⟩
  obtain ⟨l1, l2, E, e1, e2, h⟩ := key
  exact ⟨⟨l1, Nat.le_trans (Nat.mul_le_mul (by omega) e1) h⟩, ⟨l2, Nat.le_trans (Nat.mul_le_mul (by omega) e2) h⟩⟩
theorem FT.ok.subp {m n : Nat} {a : FT} (h : (a.pow n).ok m) : a.ok m ∧ (a.lev + m) * a.e * max 1 n ≤ 100000 := by
  obtain ⟨h1, h2⟩ := h
  simp only [lev, e] at h2
  rw [← Nat.mul_assoc] at h2
  have z : (a.lev + m) * a.e * max 1 n ≤ 100000 := Nat.le_trans (Nat.mul_le_mul_right _ (Nat.mul_le_mul_right _ (by omega))) h2
  exact ⟨⟨h1, Nat.le_trans (Nat.le_mul_of_pos_right _ (by omega)) z⟩, z⟩
theorem rngD_get {lo : Int} {n i : Nat} {x : PD} (h : (rngD lo n)[i]? = some x) : x = .int (lo + (i : Nat)) ∧ i < n := by
  unfold rngD at h
  rw [List.getElem?_map] at h
  obtain ⟨j, h1, rfl⟩ := Option.map_eq_some_iff.mp h
  have hi : i < n := by have := (List.getElem?_eq_some_iff.mp h1).1; simpa using this
  rw [List.getElem?_range hi] at h1
  cases h1
  exact ⟨rfl, hi⟩
theorem rngD_len {lo : Int} {n : Nat} : (rngD lo n).length = n := by unfold rngD; simp
def S_powered : FSpec := ⟨fun args Q => ∃ (b : Int) (n k : Nat), args = [.d (.int b), .d (.int n)] ∧ b.natAbs < 2 ^ k ∧ 0 < k ∧ k * max 1 n ≤ 100000 ∧ Q (.d (.int (b ^ n))) []⟩
abbrev N_powered : List Str := ["number", "times", "found", "turn"]
def ir_powered : TSt :=
  (sSeq (sAsg 2 (fD (dC (.int 1))))
    (sSeq (sFor (iRg (aCons (.s 1) aNil)) (.nm 3) (sAsg 2 (fD (dBin bMulI (.s 2) (.s 0)))))
    (sRetV 2)))
theorem pow_le {k n i : Nat} (h : k * max 1 n ≤ 100000) (hk : 0 < k) (hi : i ≤ n) : k * max 1 i ≤ 100000 := Nat.le_trans (Nat.mul_le_mul_left _ (by omega)) h
theorem sp_powered : ∀ args Q, S_powered.sp args Q → ir_powered (endsOf args Q) (rho0 N_powered args) := by
  rintro args Q ⟨b, n, k, rfl, h1, h2, h3, q⟩
  have hn : n ≤ 100000 := by
    have : max 1 n ≤ k * max 1 n := Nat.le_mul_of_pos_left _ h2
    omega
  refine ⟨by omega, _, rfl, fun i ρ => ∃ t, ρ = [some (.d (.int b)), some (.d (.int n)), some (.d (.int (b ^ i))), t], ⟨none, by rw [Int.pow_zero]⟩, ?_, ?_⟩
  · rintro i x ρ hx ⟨t, rfl⟩
    obtain ⟨rfl, hi⟩ := rngD_get hx
    refine ⟨mulOk (k * max 1 i) k (two_pow h1 (Nat.le_refl _) (Nat.mul_pos h2 (by omega))) h1 ?_ (Nat.mul_pos h2 (by omega)) h2, ?_⟩
    · have := pow_le h3 h2 (show i ≤ n by omega)
      have : k ≤ k * max 1 n := Nat.le_mul_of_pos_right _ (by omega)
      omega
    · exact ⟨_, by rw [Int.pow_succ]; rfl⟩
  · rintro ρ ⟨t, rfl⟩
    rw [rngD_len]
    exact q
end DL
namespace DL
open PySem L2 PyProof.Rows
def S_worth (d : Nat) : FSpec := ⟨fun args Q => ∃ (f : FT) (u v : Int) (m : Nat), args = [.d f.pd, .d (.int u), .d (.int v)] ∧ f.lev ≤ d ∧ f.ok m ∧ u.natAbs < 2 ^ m ∧ v.natAbs < 2 ^ m ∧ Q (.d (.int (f.val u v))) []⟩
theorem S_worth0 : ∀ args Q, ¬ (S_worth 0).sp args Q := by
  rintro args Q ⟨f, u, v, m, _, h, _⟩
  have := f.lev_pos
  omega
theorem addOk {m : Nat} {f : FT} (h : f.ok m) : (f.lev + m) * f.e ≤ 100000 ∧ 0 < (f.lev + m) * f.e := ⟨h.2, Nat.mul_pos (by have := f.lev_pos; omega) f.e_pos⟩
abbrev N_worth : List Str := ["formula", "x", "y", "one", "other"]
def ir_worth (S_worth : FSpec) (S_powered : FSpec) : TSt :=
  (sSeq (sIf (tNotD (tVal (dIsi "tuple" (.s 0)))) (sRet (fD (dGetF (fDict [.inr "x", .inr "y"] [(dVar 1), (dVar 2)]) (.s 0) (.s 0)))) sNext)
    (sSeq (sAsg 3 (fCall S_worth (aCons (.e (dBin bIx (.s 0) (.e (dC (.int 1))))) (aCons (.e (dVar 1)) (aCons (.e (dVar 2)) aNil)))))
    (sSeq (sIf (tVal (dBin cEq (.e (dBin bIx (.s 0) (.e (dC (.int 0))))) (.e (dC (.str "pow"))))) (sRet (fCall S_powered (aCons (.e (dVar 3)) (aCons (.e (dBin bIx (.s 0) (.e (dC (.int 2))))) aNil)))) sNext)
    (sSeq (sAsg 4 (fCall S_worth (aCons (.e (dBin bIx (.s 0) (.e (dC (.int 2))))) (aCons (.e (dVar 1)) (aCons (.e (dVar 2)) aNil)))))
    (sSeq (sIf (tVal (dBin cEq (.e (dBin bIx (.s 0) (.e (dC (.int 0))))) (.e (dC (.str "mul"))))) (sRet (fD (dBin bMulI (.s 3) (.s 4)))) sNext)
    (sRet (fD (dIte (tVal (dBin cEq (.e (dBin bIx (.s 0) (.e (dC (.int 0))))) (.e (dC (.str "add"))))) (dBin bAdd (.s 3) (.s 4)) (dBin bSub (.s 3) (.s 4))))))))))
theorem sp_worth (d : Nat) : ∀ args Q, (S_worth (d + 1)).sp args Q → ir_worth (S_worth d) S_powered (endsOf args Q) (rho0 N_worth args) := by
  rintro args Q ⟨f, u, v, m, rfl, hl, ok, hu, hv, q⟩
  cases f with
  | int i => exact ⟨rfl, fun _ => ⟨_, rfl, q⟩, nofun⟩
  | x => exact ⟨rfl, fun _ => ⟨_, rfl, q⟩, nofun⟩
  | y => exact ⟨rfl, fun _ => ⟨_, rfl, q⟩, nofun⟩
  | pow a n =>
    have hl' : a.lev ≤ d := by simp only [FT.lev] at hl; omega
    obtain ⟨oa, hb⟩ := ok.subp
    have z := addOk oa
    refine ⟨rfl, nofun, fun _ => ⟨_, rfl, rfl, a, u, v, m, rfl, hl', oa, hu, hv, _, rfl, fun _ => ?_, nofun⟩⟩
    exact ⟨_, rfl, rfl, a.val u v, n, _, rfl, FT.small hu hv oa.1, z.2, hb, q⟩
  | mul a b =>
    have hl' : a.lev ≤ d ∧ b.lev ≤ d := by simp only [FT.lev] at hl; omega
    obtain ⟨oa, ob⟩ := FT.ok.sub1 (.inr ok)
    refine ⟨rfl, nofun, fun _ => ⟨_, rfl, rfl, a, u, v, m, rfl, hl'.1, oa, hu, hv, _, rfl, nofun, fun _ => ⟨_, rfl, rfl, b, u, v, m, rfl, hl'.2, ob, hu, hv, _, rfl, fun _ => ?_, nofun⟩⟩⟩
    exact ⟨mulOk _ _ (FT.small hu hv oa.1) (FT.small hu hv ob.1) (by have := oa.2; have := ob.2; omega) (addOk oa).2 (addOk ob).2, q⟩
  | add a b =>
    have hl' : a.lev ≤ d ∧ b.lev ≤ d := by simp only [FT.lev] at hl; omega
    obtain ⟨oa, ob⟩ := FT.ok.sub1 (.inl (.inl ok))
    refine ⟨rfl, nofun, fun _ => ⟨_, rfl, rfl, a, u, v, m, rfl, hl'.1, oa, hu, hv, _, rfl, nofun, fun _ => ⟨_, rfl, rfl, b, u, v, m, rfl, hl'.2, ob, hu, hv, _, rfl, nofun, fun _ => ⟨_, rfl, fun _ => q, nofun⟩⟩⟩⟩
  | sub a b =>
    have hl' : a.lev ≤ d ∧ b.lev ≤ d := by simp only [FT.lev] at hl; omega
    obtain ⟨oa, ob⟩ := FT.ok.sub1 (.inl (.inr ok))
    refine ⟨rfl, nofun, fun _ => ⟨_, rfl, rfl, a, u, v, m, rfl, hl'.1, oa, hu, hv, _, rfl, nofun, fun _ => ⟨_, rfl, rfl, b, u, v, m, rfl, hl'.2, ob, hu, hv, _, rfl, nofun, fun _ => ⟨_, rfl, nofun, fun _ => q⟩⟩⟩⟩
abbrev N_law_worth_98b9 : List Str := ["formula", "x", "y", "one", "found", "k", "other"]
def ir_law_worth_98b9 (S_law_worth_98b9 : FSpec) : TSt :=
  (sSeq (sIf (tVal (dIsi "str" (.s 0))) (sRet (fD (dIte (tVal (dBin cEq (.s 0) (.e (dC (.str "x"))))) (dVar 1) (dVar 2)))) sNext)
    (sSeq (sIf (tVal (dIsi "int" (.s 0))) (sRetV 0) sNext)
    (sSeq (sPar 3 4 (fCall S_law_worth_98b9 (aCons (.e (dBin bIx (.s 0) (.e (dC (.int 1))))) (aCons (.e (dVar 1)) (aCons (.e (dVar 2)) aNil)))) (fD (dC (.int 1))))
    (sSeq (sIf (tVal (dBin cEq (.e (dBin bIx (.s 0) (.e (dC (.int 0))))) (.e (dC (.str "pow"))))) (sSeq (sFor (iRg (aCons (.e (dBin bIx (.s 0) (.e (dC (.int 2))))) aNil)) (.nm 5) (sAsg 4 (fD (dBin bMulI (.s 4) (.s 3)))))
    (sRetV 4)) sNext)
    (sSeq (sAsg 6 (fCall S_law_worth_98b9 (aCons (.e (dBin bIx (.s 0) (.e (dC (.int 2))))) (aCons (.e (dVar 1)) (aCons (.e (dVar 2)) aNil)))))
    (sSeq (sIf (tVal (dBin cEq (.e (dBin bIx (.s 0) (.e (dC (.int 0))))) (.e (dC (.str "mul"))))) (sRet (fD (dBin bMulI (.s 3) (.s 6)))) sNext)
    (sRet (fD (dIte (tVal (dBin cEq (.e (dBin bIx (.s 0) (.e (dC (.int 0))))) (.e (dC (.str "add"))))) (dBin bAdd (.s 3) (.s 6)) (dBin bSub (.s 3) (.s 6)))))))))))
theorem sp_law_worth (d : Nat) : ∀ args Q, (S_worth (d + 1)).sp args Q → ir_law_worth_98b9 (S_worth d) (endsOf args Q) (rho0 N_law_worth_98b9 args) := by
  rintro args Q ⟨f, u, v, m, rfl, hl, ok, hu, hv, q⟩
  cases f with
  | int i => exact ⟨rfl, nofun, fun _ => ⟨rfl, fun _ => q, nofun⟩⟩
  | x => exact ⟨rfl, fun _ => ⟨fun _ => q, nofun⟩, nofun⟩
  | y => exact ⟨rfl, fun _ => ⟨nofun, fun _ => q⟩, nofun⟩
  | pow a n =>
    have hl' : a.lev ≤ d := by simp only [FT.lev] at hl; omega
    obtain ⟨oa, hb⟩ := ok.subp
    have z := addOk oa
    have sm := FT.small hu hv oa.1
    have hn : n ≤ 100000 := by
      have : max 1 n ≤ (a.lev + m) * a.e * max 1 n := Nat.le_mul_of_pos_left _ z.2
      omega
    refine ⟨rfl, nofun, fun _ => ⟨rfl, nofun, fun _ => ⟨_, rfl, rfl, a, u, v, m, rfl, hl', oa, hu, hv, _, rfl, fun _ => ?_, nofun⟩⟩⟩
    refine ⟨_, rfl, by omega, _, rfl, fun i ρ => ∃ t, ρ = [some (.d (FT.pow a n).pd), some (.d (.int u)), some (.d (.int v)), some (.d (.int (a.val u v))), some (.d (.int (a.val u v ^ i))), t, none], ⟨none, by rw [Int.pow_zero]⟩, ?_, ?_⟩
    · rintro i x ρ hx ⟨t, rfl⟩
      obtain ⟨rfl, hi⟩ := rngD_get hx
      refine ⟨mulOk ((a.lev + m) * a.e * max 1 i) _ (two_pow sm (Nat.le_refl _) (Nat.mul_pos z.2 (by omega))) sm ?_ (Nat.mul_pos z.2 (by omega)) z.2, ?_⟩
      · have := pow_le hb z.2 (show i ≤ n by have : i < ((n : Nat) : Int).toNat := hi; omega)
        omega
      · exact ⟨_, by rw [Int.pow_succ]; rfl⟩
    · rintro ρ ⟨t, rfl⟩
      rw [rngD_len]
      exact q
  | mul a b =>
    have hl' : a.lev ≤ d ∧ b.lev ≤ d := by simp only [FT.lev] at hl; omega
    obtain ⟨oa, ob⟩ := FT.ok.sub1 (.inr ok)
    refine ⟨rfl, nofun, fun _ => ⟨rfl, nofun, fun _ => ⟨_, rfl, rfl, a, u, v, m, rfl, hl'.1, oa, hu, hv, _, rfl, nofun, fun _ => ⟨_, rfl, rfl, b, u, v, m, rfl, hl'.2, ob, hu, hv, _, rfl, fun _ => ?_, nofun⟩⟩⟩⟩
    exact ⟨mulOk _ _ (FT.small hu hv oa.1) (FT.small hu hv ob.1) (by have := oa.2; have := ob.2; omega) (addOk oa).2 (addOk ob).2, q⟩
  | add a b =>
    have hl' : a.lev ≤ d ∧ b.lev ≤ d := by simp only [FT.lev] at hl; omega
    obtain ⟨oa, ob⟩ := FT.ok.sub1 (.inl (.inl ok))
    refine ⟨rfl, nofun, fun _ => ⟨rfl, nofun, fun _ => ⟨_, rfl, rfl, a, u, v, m, rfl, hl'.1, oa, hu, hv, _, rfl, nofun, fun _ => ⟨_, rfl, rfl, b, u, v, m, rfl, hl'.2, ob, hu, hv, _, rfl, nofun, fun _ => ⟨_, rfl, fun _ => q, nofun⟩⟩⟩⟩⟩
  | sub a b =>
    have hl' : a.lev ≤ d ∧ b.lev ≤ d := by simp only [FT.lev] at hl; omega
    obtain ⟨oa, ob⟩ := FT.ok.sub1 (.inl (.inr ok))
    refine ⟨rfl, nofun, fun _ => ⟨rfl, nofun, fun _ => ⟨_, rfl, rfl, a, u, v, m, rfl, hl'.1, oa, hu, hv, _, rfl, nofun, fun _ => ⟨_, rfl, rfl, b, u, v, m, rfl, hl'.2, ob, hu, hv, _, rfl, nofun, fun _ => ⟨_, rfl, nofun, fun _ => q⟩⟩⟩⟩⟩
def S_hour (d : Nat) : FSpec := ⟨fun args Q => ∃ (f : FT) (c u v : Int) (m : Nat), args = [.d f.pd, .d (.int c), .d (.int u), .d (.int v)] ∧ f.lev ≤ d ∧ f.ok m ∧ u.natAbs < 2 ^ m ∧ v.natAbs < 2 ^ m ∧ 0 < c ∧ Q (.d (.int (f.val u v % c))) []⟩
abbrev N_hour : List Str := ["formula", "clock", "x", "y"]
def ir_hour (S_worth : FSpec) : TSt :=
  (sRet (fD (dBin bMod (.e (dFz (fCall S_worth (aCons (.e (dVar 0)) (aCons (.e (dVar 2)) (aCons (.e (dVar 3)) aNil)))))) (.s 1))))
theorem sp_hour (d : Nat) : ∀ args Q, (S_hour d).sp args Q → ir_hour (S_worth d) (endsOf args Q) (rho0 N_hour args) := by
  rintro args Q ⟨f, c, u, v, m, rfl, hl, ok, hu, hv, hc, q⟩
  exact ⟨rfl, f, u, v, m, rfl, hl, ok, hu, hv, hc, q⟩
end DL
namespace DL
open PySem L2 PyProof.Rows
def Lets (yy : Bool) (ls : List PD) : Prop := 0 < ls.length ∧ ls.length < 100 ∧ ∀ l ∈ ls, l = FT.x.pd ∨ (yy = true ∧ l = FT.y.pd)
def FT.leaf (yy : Bool) (m : Nat) (f : FT) : Prop := f.lev = 1 ∧ f.e = 1 ∧ f.le m ∧ (f.hasY = true → yy = true)
theorem lets_leaf {yy : Bool} {ls : List PD} {l : PD} (h : Lets yy ls) (hl : l ∈ ls) : ∃ f : FT, l = f.pd ∧ f.leaf yy 140 := by
  rcases h.2.2 l hl with rfl | ⟨hy, rfl⟩
  · exact ⟨.x, rfl, rfl, rfl, trivial, nofun⟩
  · exact ⟨.y, rfl, rfl, rfl, trivial, fun _ => hy⟩
def S_leaf : FSpec := ⟨fun args Q => ∃ (b : Nat) (dk ls : List PD) (yy : Bool), args = [.ls (some 0) dk, .d (.list ls)] ∧ Dk (b + 8) dk ∧ Lets yy ls ∧ ∀ (f : FT) dk', f.leaf yy 140 → Dk b dk' → Q (.d f.pd) [.ls (some 0) dk']⟩
abbrev N_law_leaf_a91b : List Str := ["deck", "letters", "far", "wide", "some"]
def ir_law_leaf_a91b (S_law_draw_a51a : FSpec) (S_law_one_90da : FSpec) : TSt :=
  (sSeq (sAsg 2 (fD (dBin bAdd (.e (dBin bMulI (.e (dFz (fCall S_law_draw_a51a (aCons (.s 0) (aCons (.e (dBin bPow (.e (dC (.int 10))) (.e (dC (.int 19))))) aNil))))) (.e (dBin bPow (.e (dC (.int 10))) (.e (dC (.int 20))))))) (.e (dFz (fCall S_law_draw_a51a (aCons (.s 0) (aCons (.e (dBin bPow (.e (dC (.int 10))) (.e (dC (.int 19))))) aNil))))))))
    (sSeq (sAsg 3 (fCall S_law_one_90da (aCons (.s 0) (aCons (.e (dFz (fLst (aCons (.e (dVar 2)) (aCons (.e (dNeg (.s 2))) (aCons (.e (dBin bSub (.e (dBin bPow (.e (dC (.int 10))) (.e (dC (.int 40))))) (.e (dC (.int 1))))) (aCons (.e (dBin bSub (.e (dC (.int 1))) (.e (dBin bPow (.e (dC (.int 10))) (.e (dC (.int 40))))))) aNil))))))) aNil))))
    (sSeq (sAsg 4 (fLst (aCons (.e (dC (.int 0))) (aCons (.e (dC (.int 1))) (aCons (.e (dNeg (.e (dC (.int 1))))) (aCons (.e (dC (.int 2))) (aCons (.e (dC (.int 3))) (aCons (.e (dNeg (.e (dC (.int 5))))) (aCons (.e (dC (.int 6))) (aCons (.e (dC (.int 12))) (aCons (.e (dBin bSub (.e (dFz (fCall S_law_draw_a51a (aCons (.s 0) (aCons (.e (dC (.int 199))) aNil))))) (.e (dC (.int 99))))) (aCons (.e (dVar 3)) aNil))))))))))))
    (sRet (fCall S_law_one_90da (aCons (.s 0) (aCons (.e (dFz (fLst (aCons (.e (dFz (fCall S_law_one_90da (aCons (.s 0) (aCons (.e (dVar 4)) aNil))))) (aCons (.e (dFz (fCall S_law_one_90da (aCons (.s 0) (aCons (.e (dVar 1)) aNil))))) (aCons (.e (dFz (fCall S_law_one_90da (aCons (.s 0) (aCons (.e (dVar 1)) aNil))))) aNil)))))) aNil)))))))
def SmI (x : PD) : Prop := ∃ i : Int, x = .int i ∧ i.natAbs < 2 ^ 140
theorem smI {i : Int} (h : i.natAbs < 2 ^ 140) : SmI (.int i) := ⟨i, rfl, h⟩
theorem sp_leaf : ∀ args Q, S_leaf.sp args Q → ir_law_leaf_a91b S_draw S_one (endsOf args Q) (rho0 N_law_leaf_a91b args) := by
  rintro args Q ⟨b, dk, ls, yy, rfl, h, hl, q⟩
  have g : (10 : Int) ^ (19 : Int).toNat = 10 ^ 19 := rfl
  refine ⟨powOk (k := 4) (m := 19) (by decide) (by decide) (by decide), rfl, b + 7, dk, _, rfl, h, ⟨by decide, by decide⟩, fun r1 dk1 a0 a1 d1 => ?_⟩
  rw [g] at a1
  refine ⟨powOk (k := 4) (m := 20) (by decide) (by decide) (by decide), mulOk 64 68 (by omega) (by decide), powOk (k := 4) (m := 19) (by decide) (by decide) (by decide), rfl, b + 6, dk1, _, rfl, d1, ⟨by decide, by decide⟩, fun r2 dk2 b0 b1 d2 => ?_⟩
  rw [g] at b1
  have far : (r1 * 10 ^ (20 : Int).toNat + r2).natAbs < 2 ^ 140 := by
    have e : (10 : Int) ^ (20 : Int).toNat = 100000000000000000000 := rfl
    rw [e]
    omega
  obtain ⟨w, hw⟩ : ∃ w, w = r1 * 10 ^ (20 : Int).toNat + r2 := ⟨_, rfl⟩
  rw [← hw] at far
  refine ⟨powOk (k := 4) (m := 40) (by decide) (by decide) (by decide), powOk (k := 4) (m := 40) (by decide) (by decide) (by decide), rfl, b + 5, dk2, _, rfl, d2, ⟨Nat.succ_pos _, by show 4 < 2 ^ 60; decide⟩, fun v dk3 hv d3 => ?_⟩
  rw [← hw] at hv
  have vs : SmI v := by
    have all : ∀ x ∈ [PyData.int w, .int (-w), .int (10 ^ (40 : Int).toNat - 1), .int (1 - 10 ^ (40 : Int).toNat)], SmI x := by
      simp only [List.forall_mem_cons]
      exact ⟨smI far, smI (by omega), smI (by decide), smI (by decide), fun x hx => by cases hx⟩
    exact all v hv
  obtain ⟨vi, rfl, hvi⟩ := vs
  refine ⟨rfl, b + 4, dk3, _, rfl, d3, ⟨by decide, by decide⟩, fun r3 dk4 c0 c1 d4 => ?_⟩
  refine ⟨rfl, b + 3, dk4, _, rfl, d4, ⟨Nat.succ_pos _, by show 10 < 2 ^ 60; decide⟩, fun s dk5 hs d5 => ?_⟩
  have ss : SmI s := by
    have all : ∀ x ∈ [PyData.int 0, .int 1, .int (-1), .int 2, .int 3, .int (-5), .int 6, .int 12, .int (r3 - 99), .int vi], SmI x := by
      simp only [List.forall_mem_cons]
      exact ⟨smI (by decide), smI (by decide), smI (by decide), smI (by decide), smI (by decide), smI (by decide), smI (by decide), smI (by decide), smI (by omega), smI hvi, fun x hx => by cases hx⟩
    exact all s hs
  obtain ⟨si, rfl, hsi⟩ := ss
  refine ⟨rfl, b + 2, dk5, ls, rfl, d5, ⟨hl.1, by have := hl.2.1; omega⟩, fun l1 dk6 hl1 d6 => ?_⟩
  refine ⟨rfl, b + 1, dk6, ls, rfl, d6, ⟨hl.1, by have := hl.2.1; omega⟩, fun l2 dk7 hl2 d7 => ?_⟩
  refine ⟨rfl, b, dk7, _, rfl, d7, ⟨by show 0 < 3; decide, by show 3 < 2 ^ 60; decide⟩, fun z dk8 hz d8 => ?_⟩
  have fin : ∃ f : FT, z = f.pd ∧ f.leaf yy 140 := by
    have all : ∀ x ∈ [PyData.int si, l1, l2], ∃ f : FT, x = f.pd ∧ f.leaf yy 140 := by
      simp only [List.forall_mem_cons]
      exact ⟨⟨.int si, rfl, rfl, rfl, hsi, nofun⟩, lets_leaf hl hl1, lets_leaf hl hl2, fun x hx => by cases hx⟩
    exact all z hz
  obtain ⟨f, rfl, hf⟩ := fin
  exact q f dk8 hf d8
def cst : Nat → Nat
  | 0 => 8
  | d + 1 => 2 * cst d + 3
theorem cst_ge : ∀ d, 8 ≤ cst d
  | 0 => Nat.le_refl _
  | d + 1 => by have := cst_ge d; show 8 ≤ 2 * cst d + 3; omega
def FT.drawn (yy : Bool) (m room deep : Nat) (f : FT) : Prop := f.lev ≤ deep ∧ f.e ≤ room ∧ f.le m ∧ (f.hasY = true → yy = true)
def S_formula (d : Nat) : FSpec := ⟨fun args Q => ∃ (b : Nat) (dk ls : List PD) (yy : Bool) (room deep : Nat), args = [.ls (some 0) dk, .d (.list ls), .d (.int room), .d (.int deep)] ∧ Dk (b + cst d) dk ∧ Lets yy ls ∧ 1 ≤ room ∧ room ≤ 1000 ∧ 1 ≤ deep ∧ deep ≤ d ∧
  ∀ (f : FT) dk', f.drawn yy 140 room deep → Dk b dk' → Q (.d f.pd) [.ls (some 0) dk']⟩
theorem S_formula0 : ∀ args Q, ¬ (S_formula 0).sp args Q := by
  rintro args Q ⟨b, dk, ls, yy, room, deep, _, _, _, _, _, h, h2, _⟩
  omega
abbrev N_law_formula_6b2b : List Str := ["deck", "letters", "room", "deep", "way", "word", "one", "power", "part"]
def ir_law_formula_6b2b (S_law_draw_a51a : FSpec) (S_law_leaf_a91b : FSpec) (S_law_formula_6b2b : FSpec) : TSt :=
  (sSeq (sAsg 4 (fCall S_law_draw_a51a (aCons (.s 0) (aCons (.e (dC (.int 9))) aNil))))
    (sSeq (sIf (tOrD (tVal (dBin cLt (.s 3) (.e (dC (.int 2))))) (tOrD (tVal (dBin cLt (.s 4) (.e (dC (.int 2))))) (tAndD (tVal (dBin cLt (.s 2) (.e (dC (.int 2))))) (tVal (dBin (cIn false) (.s 4) (.e (dFz (fLst (aCons (.e (dC (.int 5))) (aCons (.e (dC (.int 6))) (aCons (.e (dC (.int 7))) aNil))))))))))) (sRet (fCall S_law_leaf_a91b (aCons (.s 0) (aCons (.e (dVar 1)) aNil)))) sNext)
    (sSeq (sIf (tVal (dBin cLt (.s 4) (.e (dC (.int 5))))) (sSeq (sAsg 5 (fD (dBin bIx (.e (dFz (fLst (aCons (.e (dC (.str "add"))) (aCons (.e (dC (.str "sub"))) (aCons (.e (dC (.str "add"))) aNil)))))) (.e (dBin bSub (.s 4) (.e (dC (.int 2))))))))
    (sSeq (sAsg 6 (fCall S_law_formula_6b2b (aCons (.s 0) (aCons (.e (dVar 1)) (aCons (.e (dVar 2)) (aCons (.e (dBin bSub (.s 3) (.e (dC (.int 1))))) aNil))))))
    (sRet (fD (dTup (aCons (.e (dVar 5)) (aCons (.e (dVar 6)) (aCons (.e (dFz (fCall S_law_formula_6b2b (aCons (.s 0) (aCons (.e (dVar 1)) (aCons (.e (dVar 2)) (aCons (.e (dBin bSub (.s 3) (.e (dC (.int 1))))) aNil))))))) aNil)))))))) sNext)
    (sSeq (sIf (tVal (dBin cEq (.s 4) (.e (dC (.int 8))))) (sSeq (sAsg 7 (fCall S_law_draw_a51a (aCons (.s 0) (aCons (.e (dBin bAdd (.s 2) (.e (dC (.int 1))))) aNil))))
    (sRet (fD (dTup (aCons (.e (dC (.str "pow"))) (aCons (.e (dFz (fCall S_law_formula_6b2b (aCons (.s 0) (aCons (.e (dVar 1)) (aCons (.e (dBin bFdiv (.s 2) (.e (dBi bMax2 (aCons (.e (dC (.int 1))) (aCons (.s 7) aNil)))))) (aCons (.e (dBin bSub (.s 3) (.e (dC (.int 1))))) aNil))))))) (aCons (.e (dVar 7)) aNil))))))) sNext)
    (sSeq (sAsg 8 (fD (dBin bAdd (.e (dC (.int 1))) (.e (dFz (fCall S_law_draw_a51a (aCons (.s 0) (aCons (.e (dBin bSub (.s 2) (.e (dC (.int 1))))) aNil))))))))
    (sSeq (sAsg 6 (fCall S_law_formula_6b2b (aCons (.s 0) (aCons (.e (dVar 1)) (aCons (.e (dVar 8)) (aCons (.e (dBin bSub (.s 3) (.e (dC (.int 1))))) aNil))))))
    (sRet (fD (dTup (aCons (.e (dC (.str "mul"))) (aCons (.e (dVar 6)) (aCons (.e (dFz (fCall S_law_formula_6b2b (aCons (.s 0) (aCons (.e (dVar 1)) (aCons (.e (dBin bSub (.s 2) (.s 8))) (aCons (.e (dBin bSub (.s 3) (.e (dC (.int 1))))) aNil))))))) aNil))))))))))))
theorem sp_formula (d : Nat) : ∀ args Q, (S_formula (d + 1)).sp args Q → ir_law_formula_6b2b S_draw S_leaf (S_formula d) (endsOf args Q) (rho0 N_law_formula_6b2b args) := by
  rintro args Q ⟨b, dk, ls, yy, room, deep, rfl, h, hl, r1, r2, p1, p2, q⟩
  have hc : cst (d + 1) = 2 * cst d + 3 := rfl
  have c8 := cst_ge d
  refine ⟨rfl, b + 2 * cst d + 2, dk, 9, rfl, h.mono (by omega), ⟨by decide, by decide⟩, fun way dk1 w0 w1 d1 => ?_⟩
  have leaf : ∀ {ρ : En} {D : DE}, D.rt = retOk [.ls (some 0) dk, .d (.list ls), .d (.int room), .d (.int deep)] Q → ρ = [some (.ls (some 0) dk1), some (.d (.list ls)), some (.d (.int room)), some (.d (.int deep)), some (.d (.int way)), none, none, none, none] →
      sRet (fCall S_leaf (aCons (.s 0) (aCons (.e (dVar 1)) aNil))) D ρ := by
    rintro ρ D hD rfl
    refine ⟨rfl, b, dk1, ls, yy, rfl, d1.mono (by omega), hl, fun f dk2 hf d2 => ?_⟩
    rw [hD]
    exact q f dk2 ⟨by rw [hf.1]; exact p1, by rw [hf.2.1]; exact r1, hf.2.2.1, hf.2.2.2⟩ d2
  refine ⟨fun _ => ⟨fun _ => leaf rfl rfl, nofun⟩, fun g1 => ⟨fun _ => ⟨fun _ => leaf rfl rfl, nofun⟩, fun g2 => ⟨fun g3 => ⟨rfl, _, rfl, rfl, fun _ => leaf rfl rfl, fun g4 => ?_⟩, fun g3 => ⟨nofun, fun _ => ?_⟩⟩⟩⟩
  all_goals
    have dp : 2 ≤ deep := by
      have : ¬ ((deep : Int) < 2) := of_decide_eq_false g1
      omega
    have wy : 2 ≤ way := by
      have : ¬ (way < 2) := of_decide_eq_false g2
      omega
    have key : 2 ≤ room ∨ (way ≠ 5 ∧ way ≠ 6 ∧ way ≠ 7) := by
      first
        | (left; have : ¬ ((room : Int) < 2) := of_decide_eq_false g3; omega)
        | (right
           have z : (PyData.eqv (.int 5) (.int way) || (PyData.eqv (.int 6) (.int way) || (PyData.eqv (.int 7) (.int way) || false))) = false := g4
           simp [PyData.eqv] at z
           omega)
    clear g1 g2 g3
    obtain ⟨dp', rfl⟩ : ∃ n, deep = n + 1 := ⟨deep - 1, by omega⟩
    have ed : ((dp' + 1 : Nat) : Int) - 1 = (dp' : Nat) := by omega
    refine ⟨fun g5 => ?_, fun g5 => ⟨fun g6 => ?_, fun g6 => ?_⟩⟩
    · have w5 : way < 5 := of_decide_eq_true g5
      -- a sum or a difference
      have word : ∃ x, atI [PyData.str "add", .str "sub", .str "add"] (way - 2) = some x ∧ (x = .str "add" ∨ x = .str "sub") := by
        obtain ⟨x, e1, e2⟩ := atI_some (xs := [PyData.str "add", .str "sub", .str "add"]) (i := way - 2) (by omega) (by show way - 2 < 3; omega)
        refine ⟨x, e1, ?_⟩
        have := List.mem_of_getElem? e2
        simp only [List.mem_cons, List.not_mem_nil, or_false] at this
        rcases this with h | h | h
        · exact .inl h
        · exact .inr h
        · exact .inl h
      obtain ⟨x, ex, hx⟩ := word
      refine ⟨x, ex, rfl, b + cst d, dk1, ls, yy, room, dp', by rw [← ed]; rfl, d1.mono (by omega), hl, r1, r2, by omega, by omega, fun f dk2 hf d2 => ?_⟩
      refine ⟨rfl, b, dk2, ls, yy, room, dp', by rw [← ed]; rfl, d2, hl, r1, r2, by omega, by omega, fun g dk3 hg d3 => ?_⟩
      obtain ⟨f1, f2, f3, f4⟩ := hf
      obtain ⟨g1, g2, g3, g4⟩ := hg
      rcases hx with rfl | rfl
      · exact q (.add f g) dk3 ⟨by simp only [FT.lev]; omega, by simp only [FT.e]; omega, ⟨f3, g3⟩, by simp only [FT.hasY, Bool.or_eq_true]; exact fun h => h.elim f4 g4⟩ d3
      · exact q (.sub f g) dk3 ⟨by simp only [FT.lev]; omega, by simp only [FT.e]; omega, ⟨f3, g3⟩, by simp only [FT.hasY, Bool.or_eq_true]; exact fun h => h.elim f4 g4⟩ d3
    · -- a power
      refine ⟨rfl, b + 2 * cst d + 1, dk1, _, rfl, d1.mono (by omega), ⟨by omega, ?_⟩, fun r dk2 h0 h1 d2 => ?_⟩
      · exact Nat.lt_of_lt_of_le (log2_lt (k := 20) (by omega) (by decide)) (by decide)
      obtain ⟨n, rfl⟩ : ∃ n : Nat, r = n := ⟨r.toNat, by omega⟩
      have em : (if (n : Int) > 1 then (n : Int) else 1) = ((max 1 n : Nat) : Int) := by split <;> omega
      have er : (room : Int) / (if (n : Int) > 1 then (n : Int) else 1) = ((room / max 1 n : Nat) : Int) := by rw [em, Int.natCast_ediv]
      refine ⟨⟨by rw [em]; omega, ?_⟩, rfl, b, dk2, ls, yy, room / max 1 n, dp', by rw [← ed, ← er]; rfl, d2.mono (by omega), hl, ?_, Nat.le_trans (Nat.div_le_self _ _) r2, by omega, by omega, fun f dk3 hf d3 => ?_⟩
      · rw [em, Int.natAbs_natCast]
        exact Nat.lt_of_lt_of_le (log2_lt (i := ((max 1 n : Nat) : Int)) (k := 20) (by omega) (by decide)) (by decide)
      · exact Nat.div_pos (by omega) (by omega)
      · obtain ⟨f1, f2, f3, f4⟩ := hf
        refine q (.pow f n) dk3 ⟨by simp only [FT.lev]; omega, ?_, f3, f4⟩ d3
        simp only [FT.e]
        exact Nat.le_trans (Nat.mul_le_mul_right _ f2) (Nat.div_mul_le_self _ _)
    · -- a product
      have w5 : ¬ way < 5 := of_decide_eq_false g5
      have w8 : ¬ way = 8 := of_decide_eq_false g6
      have rm : 2 ≤ room := by omega
      refine ⟨rfl, b + 2 * cst d + 1, dk1, _, rfl, d1.mono (by omega), ⟨by omega, ?_⟩, fun r dk2 h0 h1 d2 => ?_⟩
      · exact Nat.lt_of_lt_of_le (log2_lt (k := 20) (by omega) (by decide)) (by decide)
      obtain ⟨n, rfl⟩ : ∃ n : Nat, r = n := ⟨r.toNat, by omega⟩
      have e1 : 1 + (n : Int) = ((1 + n : Nat) : Int) := by omega
      have e2 : (room : Int) - (1 + (n : Int)) = ((room - (1 + n) : Nat) : Int) := by omega
      refine ⟨rfl, b + cst d, dk2, ls, yy, 1 + n, dp', by rw [← ed, ← e1]; rfl, d2.mono (by omega), hl, by omega, by omega, by omega, by omega, fun f dk3 hf d3 => ?_⟩
      refine ⟨rfl, b, dk3, ls, yy, room - (1 + n), dp', by rw [← ed, ← e2]; rfl, d3, hl, by omega, by omega, by omega, by omega, fun g dk4 hg d4 => ?_⟩
      obtain ⟨f1, f2, f3, f4⟩ := hf
      obtain ⟨g1, g2, g3, g4⟩ := hg
      exact q (.mul f g) dk4 ⟨by simp only [FT.lev]; omega, by simp only [FT.e]; omega, ⟨f3, g3⟩, by simp only [FT.hasY, Bool.or_eq_true]; exact fun h => h.elim f4 g4⟩ d4
end DL
namespace DL
open PySem L2 PyProof.Rows
def FT.row (f : FT) (c : Int) (n : Nat) : List PD := (List.range n).map fun i => .int (f.val (i : Nat) 0 % c)
end DL
namespace DL
open PySem L2 PyProof.Rows
theorem Shw.tup3 {n x y z : Nat} {a b c : PD} (h1 : Shw n x a) (h2 : Shw n y b) (h3 : Shw n z c) : Shw (n + 1) (x + y + z + 9) (.tuple [a, b, c]) := by
  refine ⟨?_, ?_, ?_, ?_⟩
  · simp [noDict, noDictA, h1.nd, h2.nd, h3.nd]
  · simp [shw, shwA, h1.sh, h2.sh, h3.sh]
  · simp only [PyData.depth]
    exact Nat.succ_le_succ (depthAll_le fun w hw => by
      simp only [List.mem_cons, List.not_mem_nil, or_false] at hw
      rcases hw with rfl | rfl | rfl
      · exact h1.dp
      · exact h2.dp
      · exact h3.dp)
  · rw [PyData.shown, shownAll_map]
    have a := tupleText_le 0 ([a, b, c].map PyData.shown)
    have e1 := h1.ln
    have e2 := h2.ln
    have e3 := h3.ln
    simp only [List.map_cons, List.map_nil, lenS] at a ⊢
    omega
def FT.sz (m : Nat) : FT → Nat
  | add a b | sub a b | mul a b => a.sz m + b.sz m + 14
  | pow a _ => a.sz m + 35
  | _ => m + 3
theorem FT.shw {m : Nat} (hm : m ≤ 14000) (h0 : 0 < m) : ∀ {f : FT}, f.le m → f.e < 2 ^ 20 → Shw f.lev (f.sz m) f.pd
  | int i, h, _ => (Shw.int h hm h0).mono (Nat.le_refl _) (by simp only [sz]; omega)
  | x, _, _ => Shw.str (by show _ ≤ m + 3; exact Nat.le_trans (show (reprText "x").length ≤ 3 by decide +kernel) (by omega))
  | y, _, _ => Shw.str (by show _ ≤ m + 3; exact Nat.le_trans (show (reprText "y").length ≤ 3 by decide +kernel) (by omega))
  | add a b, h, he => by
    simp only [FT.e] at he
    have z := Shw.tup3 (n := max a.lev b.lev) (Shw.str (z := 5) (x := "add") (by decide +kernel)) ((shw hm h0 h.1 (by omega)).mono (Nat.le_max_left _ _) (Nat.le_refl _)) ((shw hm h0 h.2 (by omega)).mono (Nat.le_max_right _ _) (Nat.le_refl _))
    exact z.mono (Nat.le_refl _) (by simp only [sz]; omega)
  | sub a b, h, he => by
    simp only [FT.e] at he
    have z := Shw.tup3 (n := max a.lev b.lev) (Shw.str (z := 5) (x := "sub") (by decide +kernel)) ((shw hm h0 h.1 (by omega)).mono (Nat.le_max_left _ _) (Nat.le_refl _)) ((shw hm h0 h.2 (by omega)).mono (Nat.le_max_right _ _) (Nat.le_refl _))
    exact z.mono (Nat.le_refl _) (by simp only [sz]; omega)
  | mul a b, h, he => by
    simp only [FT.e] at he
    have z := Shw.tup3 (n := max a.lev b.lev) (Shw.str (z := 5) (x := "mul") (by decide +kernel)) ((shw hm h0 h.1 (by omega)).mono (Nat.le_max_left _ _) (Nat.le_refl _)) ((shw hm h0 h.2 (by omega)).mono (Nat.le_max_right _ _) (Nat.le_refl _))
    exact z.mono (Nat.le_refl _) (by simp only [sz]; omega)
  | pow a n, h, he => by
    simp only [FT.e] at he
    have e1 : a.e ≤ a.e * max 1 n := Nat.le_mul_of_pos_right _ (by omega)
    have e2 : max 1 n ≤ a.e * max 1 n := Nat.le_mul_of_pos_left _ a.e_pos
    have z := Shw.tup3 (n := a.lev) (Shw.str (z := 5) (x := "pow") (by decide +kernel)) (shw hm h0 (f := a) h (by omega)) (Shw.int (i := (n : Nat)) (k := 20) (by omega))
    exact z.mono (Nat.le_refl _) (by simp only [sz]; omega)
theorem FT.sz_le {m : Nat} : ∀ f : FT, f.sz m + 40 ≤ (m + 40) * 2 ^ f.lev
  | int _ => by simp only [sz, lev]; omega
  | x => by simp only [sz, lev]; omega
  | y => by simp only [sz, lev]; omega
  | add a b => key (sz_le a) (sz_le b)
  | sub a b => key (sz_le a) (sz_le b)
  | mul a b => key (sz_le a) (sz_le b)
  | pow a _ => by
    have h := sz_le (m := m) a
    simp only [sz, lev, Nat.pow_succ]
    have : 40 ≤ (m + 40) * 2 ^ a.lev := Nat.le_trans (by omega) (Nat.le_mul_of_pos_right _ (Nat.pow_pos (by decide)))
    rw [← Nat.mul_assoc]
    omega
where
  key {s t a b : Nat} (h1 : s + 40 ≤ (m + 40) * 2 ^ a) (h2 : t + 40 ≤ (m + 40) * 2 ^ b) : s + t + 14 + 40 ≤ (m + 40) * 2 ^ (max a b + 1) := by
    have x1 : (m + 40) * 2 ^ a ≤ (m + 40) * 2 ^ max a b := Nat.mul_le_mul_left _ (Nat.pow_le_pow_right (by decide) (Nat.le_max_left _ _))
    have x2 : (m + 40) * 2 ^ b ≤ (m + 40) * 2 ^ max a b := Nat.mul_le_mul_left _ (Nat.pow_le_pow_right (by decide) (Nat.le_max_right _ _))
    rw [Nat.pow_succ, ← Nat.mul_assoc]
    omega
theorem FT.drawn.shw {yy : Bool} {room deep : Nat} {f : FT} (h : f.drawn yy 140 room deep) (hr : room ≤ 1000) (hd : deep ≤ 16) : Shw 16 (180 * 2 ^ 16) f.pd := by
  have z := FT.shw (m := 140) (by decide) (by decide) h.2.2.1 (by have := h.2.1; omega)
  refine z.mono (Nat.le_trans h.1 hd) ?_
  have a := f.sz_le (m := 140)
  have b : (140 + 40) * 2 ^ f.lev ≤ 180 * 2 ^ 16 := Nat.mul_le_mul_left _ (Nat.pow_le_pow_right (by decide) (Nat.le_trans h.1 hd))
  omega
theorem FT.drawn.ok {yy : Bool} {room deep m : Nat} {f : FT} (h : f.drawn yy 140 room deep) (hm : 140 ≤ m) (hb : (deep + m) * room ≤ 100000) : f.ok m := by
  obtain ⟨h1, h2, h3, _⟩ := h
  refine ⟨?_, Nat.le_trans (Nat.mul_le_mul (by omega) h2) hb⟩
  have go : ∀ g : FT, g.le 140 → g.le m := fun g => by
    induction g with
    | int i => exact fun h => Nat.lt_of_lt_of_le h (Nat.pow_le_pow_right (by decide) hm)
    | x => exact id
    | y => exact id
    | add a b ha hb => exact fun h => ⟨ha h.1, hb h.2⟩
    | sub a b ha hb => exact fun h => ⟨ha h.1, hb h.2⟩
    | mul a b ha hb => exact fun h => ⟨ha h.1, hb h.2⟩
    | pow a n ha => exact ha
  exact go f h3
end DL
namespace DL
open PySem L2 PyProof.Rows
def S_clock : FSpec := ⟨fun args Q => ∃ (b : Nat) (dk : List PD), args = [.ls (some 0) dk] ∧ Dk (b + 7) dk ∧ ∀ (c : Nat) dk', 0 < c → c ≤ 2 ^ 100 → Dk b dk' → Q (.d (.int c)) [.ls (some 0) dk']⟩
def ClI (x : PD) : Prop := ∃ c : Nat, x = .int c ∧ 0 < c ∧ c ≤ 2 ^ 100
theorem clI {i : Int} (h0 : 0 < i) (h : i ≤ 2 ^ 100) : ClI (.int i) := ⟨i.toNat, by rw [Int.toNat_of_nonneg (by omega)], by omega, by omega⟩
theorem log2_const {i : Int} {k : Nat} (h : i.natAbs < 2 ^ k) (h0 : 0 < k := by decide) (hk : k ≤ 8000 := by decide) : i.natAbs.log2 < 8000 := Nat.lt_of_lt_of_le (log2_lt h h0) hk
abbrev N_law_clock_4333 : List Str := ["deck", "some"]
def ir_law_clock_4333 (S_law_draw_a51a : FSpec) (S_law_one_90da : FSpec) : TSt :=
  (sSeq (sAsg 1 (fLst (aCons (.e (dBin bAdd (.e (dC (.int 1))) (.e (dFz (fCall S_law_draw_a51a (aCons (.s 0) (aCons (.e (dC (.int 12))) aNil))))))) (aCons (.e (dBin bAdd (.e (dC (.int 1))) (.e (dFz (fCall S_law_draw_a51a (aCons (.s 0) (aCons (.e (dC (.int 60))) aNil))))))) (aCons (.e (dBin bShl (.e (dC (.int 1))) (.e (dFz (fCall S_law_draw_a51a (aCons (.s 0) (aCons (.e (dC (.int 100))) aNil))))))) (aCons (.e (dC (.int 720))) (aCons (.e (dC (.int 30030))) (aCons (.e (dBin bMulI (.e (dC (.int 2))) (.e (dBin bPow (.e (dC (.int 10))) (.e (dC (.int 12))))))) aNil))))))))
    (sSeq (sAsg 1 (fD (dBin bAdd (.s 1) (.e (dFz (fLst (aCons (.e (dBin bSub (.e (dBin bPow (.e (dC (.int 10))) (.e (dC (.int 30))))) (.e (dFz (fCall S_law_draw_a51a (aCons (.s 0) (aCons (.e (dC (.int 1000))) aNil))))))) (aCons (.e (dBin bAdd (.e (dC (.int 1))) (.e (dBin bMulI (.e (dFz (fCall S_law_draw_a51a (aCons (.s 0) (aCons (.e (dBin bPow (.e (dC (.int 10))) (.e (dC (.int 15))))) aNil))))) (.e (dFz (fCall S_law_draw_a51a (aCons (.s 0) (aCons (.e (dBin bPow (.e (dC (.int 10))) (.e (dC (.int 15))))) aNil))))))))) aNil))))))))
    (sRet (fCall S_law_one_90da (aCons (.s 0) (aCons (.e (dVar 1)) aNil))))))
theorem sp_clock : ∀ args Q, S_clock.sp args Q → ir_law_clock_4333 S_draw S_one (endsOf args Q) (rho0 N_law_clock_4333 args) := by
  rintro args Q ⟨b, dk, rfl, h, q⟩
  have e30 : (10 : Int) ^ (30 : Int).toNat = 1000000000000000000000000000000 := rfl
  have e15 : (10 : Int) ^ (15 : Int).toNat = 1000000000000000 := rfl
  have e12 : (10 : Int) ^ (12 : Int).toNat = 1000000000000 := rfl
  refine ⟨rfl, b + 6, dk, 12, rfl, h, ⟨by decide, by decide⟩, fun r1 dk1 a0 a1 d1 => ?_⟩
  refine ⟨rfl, b + 5, dk1, 60, rfl, d1, ⟨by decide, by decide⟩, fun r2 dk2 b0 b1 d2 => ?_⟩
  refine ⟨rfl, b + 4, dk2, 100, rfl, d2, ⟨by decide, by decide⟩, fun r3 dk3 c0 c1 d3 => ?_⟩
  refine ⟨⟨c0, by omega, by decide⟩, powOk (k := 4) (m := 12) (by decide) (by decide) (by decide), mulOk 2 50 (by decide) (by decide), powOk (k := 4) (m := 30) (by decide) (by decide) (by decide), ?_⟩
  refine ⟨rfl, b + 3, dk3, 1000, rfl, d3, ⟨by decide, by decide⟩, fun r4 dk4 f0 f1 d4 => ?_⟩
  refine ⟨powOk (k := 4) (m := 15) (by decide) (by decide) (by decide), rfl, b + 2, dk4, _, rfl, d4, ⟨by decide, by decide⟩, fun r5 dk5 g0 g1 d5 => ?_⟩
  refine ⟨powOk (k := 4) (m := 15) (by decide) (by decide) (by decide), rfl, b + 1, dk5, _, rfl, d5, ⟨by decide, by decide⟩, fun r6 dk6 h0 h1 d6 => ?_⟩
  rw [e15] at g1 h1
  refine ⟨mulOk 60 60 (by omega) (by omega), by show 6 + 2 ≤ sizeLine; rw [sizeLine_eq]; decide, ?_⟩
  refine ⟨rfl, b, dk6, _, rfl, d6, ⟨Nat.succ_pos _, by show 8 < 2 ^ 60; decide⟩, fun z dk7 hz d7 => ?_⟩
  have p3 : (1 : Int) * 2 ^ r3.toNat ≤ 2 ^ 100 := by
    rw [Int.one_mul]
    have : (2 : Nat) ^ r3.toNat ≤ 2 ^ 100 := Nat.pow_le_pow_right (by decide) (by omega)
    exact_mod_cast this
  have p3' : (0 : Int) < 1 * 2 ^ r3.toNat := by
    rw [Int.one_mul]; exact Int.pow_pos (by decide)
  have p5 : r5 * r6 ≤ 1000000000000000 * 1000000000000000 := Int.mul_le_mul (by omega) (by omega) h0 (by omega)
  have p5' : 0 ≤ r5 * r6 := Int.mul_nonneg g0 h0
  have all : ∀ x ∈ [PyData.int (1 + r1), .int (1 + r2), .int (1 * 2 ^ r3.toNat), .int 720, .int 30030, .int (2 * 10 ^ (12 : Int).toNat), .int (10 ^ (30 : Int).toNat - r4), .int (1 + r5 * r6)], ClI x := by
    simp only [List.forall_mem_cons]
    exact ⟨clI (by omega) (by omega), clI (by omega) (by omega), clI p3' p3, clI (by decide) (by decide), clI (by decide) (by decide), clI (by decide) (by decide), clI (by rw [e30]; omega) (by rw [e30]; omega), clI (by omega) (by omega), fun x hx => by cases hx⟩
  obtain ⟨c, rfl, k0, k1⟩ := all z hz
  exact q c dk7 k0 k1 d7
theorem emod_pow {a b c : Int} (h : a % c = b % c) : ∀ n : Nat, a ^ n % c = b ^ n % c
  | 0 => by rw [Int.pow_zero, Int.pow_zero]
  | n + 1 => by rw [Int.pow_succ, Int.pow_succ, Int.mul_emod, emod_pow h n, h, ← Int.mul_emod]
theorem FT.val_cong {c u u' v v' : Int} (hu : u % c = u' % c) (hv : v % c = v' % c) : ∀ f : FT, f.val u v % c = f.val u' v' % c
  | int i => rfl
  | x => hu
  | y => hv
  | add a b => by simp only [val]; rw [Int.add_emod, val_cong hu hv a, val_cong hu hv b, ← Int.add_emod]
  | sub a b => by simp only [val]; rw [Int.sub_emod, val_cong hu hv a, val_cong hu hv b, ← Int.sub_emod]
  | mul a b => by simp only [val]; rw [Int.mul_emod, val_cong hu hv a, val_cong hu hv b, ← Int.mul_emod]
  | pow a n => by simp only [val]; exact emod_pow (val_cong hu hv a) n
theorem lets_xy : Lets true [FT.x.pd, FT.y.pd] := ⟨by decide, by decide, fun l hl => by
  simp only [List.mem_cons, List.not_mem_nil, or_false] at hl
  rcases hl with h | h
  · exact .inl h
  · exact .inr ⟨rfl, h⟩⟩
end DL
namespace DL
open PySem L2 PyProof.Rows
def natAt (i : Nat) (ρ : En) : Nat := match ρ[i]? with
  | some (some (.d (.int n))) => n.toNat
  | _ => 0
def S_common : FSpec := ⟨fun args Q => ∃ a b : Nat, args = [.d (.int a), .d (.int b)] ∧ Q (.d (.int (Nat.gcd a b))) []⟩
abbrev N_law_common_ae84 : List Str := ["one", "other"]
def ir_law_common_ae84 : TSt :=
  (sSeq (sWhile (tVal (dBin cGt (.s 1) (.e (dC (.int 0))))) (sPar 0 1 (fD (dVar 1)) (fD (dBin bMod (.e (dBi bInt (aCons (.s 0) aNil))) (.s 1)))))
    (sRetV 0))
theorem gcd_turn {x y : Nat} (h : 0 < y) : Nat.gcd y (x % y) = Nat.gcd x y := by
  rw [Nat.gcd_comm x y, Nat.gcd_rec y x, Nat.gcd_comm]
theorem sp_law_common : ∀ args Q, S_common.sp args Q → ir_law_common_ae84 (endsOf args Q) (rho0 N_law_common_ae84 args) := by
  rintro args Q ⟨a, b, rfl, q⟩
  refine ⟨fun ρ => ∃ x y : Nat, ρ = [some (.d (.int x)), some (.d (.int y))] ∧ Nat.gcd x y = Nat.gcd a b, natAt 1, ⟨a, b, rfl, rfl⟩, ?_⟩
  rintro ρ ⟨x, y, rfl, hg⟩
  refine ⟨fun h => ?_, fun h => ?_⟩
  · have hy : (0 : Int) < (y : Int) := of_decide_eq_true h
    refine ⟨hy, ⟨y, x % y, by rw [Int.natCast_emod]; rfl, ?_⟩, ?_⟩
    · rw [gcd_turn (by omega)]; exact hg
    · show ((x : Int) % (y : Int)).toNat < ((y : Nat) : Int).toNat
      have h1 := Int.emod_lt_of_pos (x : Int) hy
      have h2 := Int.emod_nonneg (x : Int) (b := (y : Int)) (by omega)
      omega
  · have hy : ¬ (0 : Int) < (y : Int) := of_decide_eq_false h
    have : y = 0 := by omega
    subst this
    rw [Nat.gcd_zero_right] at hg
    subst hg
    exact q
def fallI (x : Int) : Nat → Int
  | 0 => 1
  | n + 1 => fallI x n * (x - (n : Nat))
theorem fallI_small {x : Int} {m : Nat} : ∀ {n : Nat}, x.natAbs + n < 2 ^ m → (fallI x n).natAbs < 2 ^ (m * n + 1)
  | 0, _ => by show (1 : Int).natAbs < _; simp
  | n + 1, h => by
    have a := fallI_small (x := x) (m := m) (n := n) (by omega)
    have b : (x - (n : Nat)).natAbs < 2 ^ m := by omega
    exact two_mul a b (by rw [Nat.mul_add]; omega)
def S_falling : FSpec := ⟨fun args Q => ∃ (x : Int) (n m : Nat), args = [.d (.int x), .d (.int n)] ∧ x.natAbs + n < 2 ^ m ∧ 0 < m ∧ n ≤ 100000 ∧ m * n + m ≤ 400000 ∧ Q (.d (.int (fallI x n))) []⟩
abbrev N_law_falling_d92b : List Str := ["x", "many", "found", "k"]
def ir_law_falling_d92b : TSt :=
  (sSeq (sAsg 2 (fD (dC (.int 1))))
    (sSeq (sFor (iRg (aCons (.s 1) aNil)) (.nm 3) (sAsg 2 (fD (dBin bMulI (.s 2) (.e (dBin bSub (.s 0) (.s 3)))))))
    (sRetV 2)))
theorem sp_law_falling : ∀ args Q, S_falling.sp args Q → ir_law_falling_d92b (endsOf args Q) (rho0 N_law_falling_d92b args) := by
  rintro args Q ⟨x, n, m, rfl, h1, h2, h3, h4, q⟩
  refine ⟨by omega, _, rfl, fun i ρ => ∃ t, ρ = [some (.d (.int x)), some (.d (.int n)), some (.d (.int (fallI x i))), t], ⟨none, rfl⟩, ?_, ?_⟩
  · rintro i y ρ hx ⟨t, rfl⟩
    obtain ⟨rfl, hi⟩ := rngD_get hx
    have hi : i < n := hi
    have e : (0 : Int) + (i : Nat) = (i : Nat) := by omega
    rw [e]
    refine ⟨mulOk (m * i + 1) m (fallI_small (by omega)) (by omega) ?_ (by omega) h2, ?_⟩
    · have : m * i ≤ m * n := Nat.mul_le_mul_left _ (by omega)
      omega
    · exact ⟨_, rfl⟩
  · rintro ρ ⟨t, rfl⟩
    rw [rngD_len]
    exact q
theorem fallI_fact : ∀ (n k : Nat), fallI ((n + k : Nat) : Int) n > 0
  | 0, _ => by show (0 : Int) < 1; decide
  | n + 1, k => by
    have h := fallI_fact n (k + 1)
    rw [show n + (k + 1) = n + 1 + k by omega] at h
    exact Int.mul_pos h (by omega)
def FT.deg : FT → Nat
  | int _ => 0
  | x => 1
  | y => 1
  | add a b | sub a b => max a.deg b.deg
  | mul a b => a.deg + b.deg
  | pow a n => a.deg * n
theorem FT.deg_le : ∀ f : FT, f.deg ≤ f.e
  | int _ => Nat.zero_le _
  | x => Nat.le_refl _
  | y => Nat.le_refl _
  | add a b => by have := a.deg_le; have := b.deg_le; simp only [deg, e]; omega
  | sub a b => by have := a.deg_le; have := b.deg_le; simp only [deg, e]; omega
  | mul a b => by have := a.deg_le; have := b.deg_le; simp only [deg, e]; omega
  | pow a n => by
    simp only [deg, e]
    exact Nat.mul_le_mul a.deg_le (by omega)
def chainF (l : FT) : Nat → FT
  | 0 => .int 1
  | 1 => .sub l (.int 0)
  | n + 2 => .mul (chainF l (n + 1)) (.sub l (.int ((n + 1 : Nat))))
def isLetter (l : FT) : Prop := l = .x ∨ l = .y
theorem chainF_ok {l : FT} (hl : isLetter l) : ∀ {n : Nat}, n < 1000 → (chainF l n).lev ≤ n + 1 ∧ (chainF l n).e ≤ max 1 n ∧ (chainF l n).le 140 ∧ (chainF l n).deg ≤ n ∧ (chainF l n).sz 140 ≤ 400 * (n + 1)
  | 0, _ => ⟨Nat.le_refl _, Nat.le_refl _, (show (1 : Int).natAbs < 2 ^ 140 by decide), Nat.le_refl _, by show 140 + 3 ≤ 400 * (0 + 1); decide⟩
  | 1, _ => by rcases hl with rfl | rfl <;> exact ⟨by decide, by decide, ⟨trivial, (show (0 : Int).natAbs < 2 ^ 140 by decide)⟩, by decide, by decide⟩
  | n + 2, h => by
    obtain ⟨a, b, c, d, z⟩ := chainF_ok hl (n := n + 1) (by omega)
    have s : ((n + 1 : Nat) : Int).natAbs < 2 ^ 140 := by
      rw [Int.natAbs_natCast]; omega
    have ll : l.lev = 1 ∧ l.e = 1 ∧ l.le 140 ∧ l.deg = 1 ∧ l.sz 140 = 143 := by rcases hl with rfl | rfl <;> exact ⟨rfl, rfl, trivial, rfl, rfl⟩
    refine ⟨?_, ?_, ⟨c, ll.2.2.1, s⟩, ?_, ?_⟩
    · simp only [chainF, FT.lev]; omega
    · simp only [chainF, FT.e]; omega
    · simp only [chainF, FT.deg]; omega
    · simp only [chainF, FT.sz]; omega
def S_chain : FSpec := ⟨fun args Q => ∃ (l : FT) (n : Nat), args = [.d l.pd, .d (.int n)] ∧ isLetter l ∧ n ≤ 900 ∧ Q (.d (chainF l n).pd) []⟩
abbrev N_law_chain_f3d4 : List Str := ["letter", "many", "found", "k"]
def ir_law_chain_f3d4 : TSt :=
  (sSeq (sAsg 2 (fD (dC (.int 1))))
    (sSeq (sFor (iRg (aCons (.s 1) aNil)) (.nm 3) (sAsg 2 (fD (dIte (tVal (dBin cEq (.s 3) (.e (dC (.int 0))))) (dTup (aCons (.e (dC (.str "sub"))) (aCons (.e (dVar 0)) (aCons (.e (dVar 3)) aNil)))) (dTup (aCons (.e (dC (.str "mul"))) (aCons (.e (dVar 2)) (aCons (.e (dTup (aCons (.e (dC (.str "sub"))) (aCons (.e (dVar 0)) (aCons (.e (dVar 3)) aNil))))) aNil))))))))
    (sRetV 2)))
theorem sp_law_chain : ∀ args Q, S_chain.sp args Q → ir_law_chain_f3d4 (endsOf args Q) (rho0 N_law_chain_f3d4 args) := by
  rintro args Q ⟨l, n, rfl, hl, hn, q⟩
  refine ⟨by omega, _, rfl, fun i ρ => ∃ t, ρ = [some (.d l.pd), some (.d (.int n)), some (.d (chainF l i).pd), t], ⟨none, rfl⟩, ?_, ?_⟩
  · rintro i y ρ hx ⟨t, rfl⟩
    obtain ⟨rfl, hi⟩ := rngD_get hx
    refine ⟨fun h => ?_, fun h => ?_⟩
    · have z : (0 : Int) + (i : Nat) = 0 := of_decide_eq_true h
      have : i = 0 := by omega
      subst this
      exact ⟨_, rfl⟩
    · have z : ¬ (0 : Int) + (i : Nat) = 0 := of_decide_eq_false h
      obtain ⟨j, rfl⟩ : ∃ j, i = j + 1 := ⟨i - 1, by omega⟩
      have e : (0 : Int) + ((j + 1 : Nat) : Int) = ((j + 1 : Nat) : Int) := by omega
      rw [e]
      exact ⟨_, rfl⟩
  · rintro ρ ⟨t, rfl⟩
    rw [rngD_len]
    exact q
def FT.ok2 (f : FT) : Prop := f.lev ≤ 17 ∧ f.e ≤ 20 ∧ f.le 140 ∧ f.deg ≤ 16 ∧ f.sz 140 ≤ 100000
def S_near : FSpec := ⟨fun args Q => ∃ (b : Nat) (dk : List PD) (f : FT) (c : Nat), args = [.ls (some 0) dk, .d f.pd, .d (.int c)] ∧ Dk (b + 8) dk ∧ (f.lev ≤ 4 ∧ f.e ≤ 8 ∧ f.le 140) ∧ 0 < c ∧ c ≤ 2 ^ 100 ∧
  ∀ (g : FT) dk', g.ok2 → Dk b dk' → Q (.d g.pd) [.ls (some 0) dk']⟩
abbrev N_law_near_025f : List Str := ["deck", "formula", "clock", "i", "j", "letters", "step", "more"]
def ir_law_near_025f (S_law_one_90da : FSpec) (S_law_draw_a51a : FSpec) (S_law_common_ae84 : FSpec) (S_law_falling_d92b : FSpec) (S_law_chain_f3d4 : FSpec) : TSt :=
  (sSeq (sAsg 3 (fCall S_law_one_90da (aCons (.s 0) (aCons (.e (dFz (fLst (aCons (.e (dFz (fCall S_law_draw_a51a (aCons (.s 0) (aCons (.e (dC (.int 5))) aNil))))) (aCons (.e (dFz (fCall S_law_draw_a51a (aCons (.s 0) (aCons (.e (dC (.int 13))) aNil))))) aNil))))) aNil))))
    (sSeq (sAsg 4 (fCall S_law_draw_a51a (aCons (.s 0) (aCons (.e (dBi bMin2 (aCons (.e (dC (.int 4))) (aCons (.e (dBin bSub (.e (dC (.int 15))) (.s 3))) aNil)))) aNil))))
    (sSeq (sAsg 5 (fCall S_law_one_90da (aCons (.s 0) (aCons (.e (dFz (fLst (aCons (.e (dC (.str "xy"))) (aCons (.e (dC (.str "yx"))) aNil))))) aNil))))
    (sSeq (sAsg 6 (fD (dBin bFdiv (.s 2) (.e (dFz (fCall S_law_common_ae84 (aCons (.e (dVar 2)) (aCons (.e (dBin bMulI (.e (dFz (fCall S_law_falling_d92b (aCons (.e (dVar 3)) (aCons (.e (dVar 3)) aNil))))) (.e (dFz (fCall S_law_falling_d92b (aCons (.e (dVar 4)) (aCons (.e (dVar 4)) aNil))))))) aNil))))))))
    (sSeq (sAsg 6 (fD (dBi bMax2 (aCons (.e (dC (.int 1))) (aCons (.e (dBin bAdd (.s 6) (.e (dFz (fCall S_law_one_90da (aCons (.s 0) (aCons (.e (dFz (fLst (aCons (.e (dC (.int 0))) (aCons (.e (dC (.int 0))) (aCons (.e (dC (.int 0))) (aCons (.e (dC (.int 1))) (aCons (.e (dNeg (.e (dC (.int 1))))) aNil)))))))) aNil))))))) aNil)))))
    (sSeq (sAsg 7 (fD (dTup (aCons (.e (dC (.str "mul"))) (aCons (.e (dFz (fCall S_law_chain_f3d4 (aCons (.e (dBin bIx (.s 5) (.e (dC (.int 0))))) (aCons (.e (dVar 3)) aNil))))) (aCons (.e (dFz (fCall S_law_chain_f3d4 (aCons (.e (dBin bIx (.s 5) (.e (dC (.int 1))))) (aCons (.e (dVar 4)) aNil))))) aNil))))))
    (sSeq (sAsg 7 (fD (dTup (aCons (.e (dC (.str "mul"))) (aCons (.e (dTup (aCons (.e (dC (.str "mul"))) (aCons (.e (dVar 6)) (aCons (.e (dFz (fCall S_law_one_90da (aCons (.s 0) (aCons (.e (dFz (fLst (aCons (.e (dC (.int 1))) (aCons (.e (dNeg (.e (dC (.int 1))))) (aCons (.e (dC (.int 2))) (aCons (.e (dC (.int 5))) aNil))))))) aNil))))) aNil))))) (aCons (.e (dVar 7)) aNil))))))
    (sRet (fCall S_law_one_90da (aCons (.s 0) (aCons (.e (dFz (fLst (aCons (.e (dTup (aCons (.e (dC (.str "add"))) (aCons (.e (dVar 1)) (aCons (.e (dVar 7)) aNil))))) (aCons (.e (dTup (aCons (.e (dC (.str "sub"))) (aCons (.e (dVar 1)) (aCons (.e (dVar 7)) aNil))))) (aCons (.e (dTup (aCons (.e (dC (.str "add"))) (aCons (.e (dVar 7)) (aCons (.e (dTup (aCons (.e (dC (.str "mul"))) (aCons (.e (dC (.int 1))) (aCons (.e (dVar 1)) aNil))))) aNil))))) aNil)))))) aNil)))))))))))
theorem sign1 : (PyData.str ⟨#[120]⟩ = FT.x.pd) ∧ (PyData.str ⟨#[121]⟩ = FT.y.pd) := ⟨congrArg PyData.str (by decide +kernel), congrArg PyData.str (by decide +kernel)⟩
theorem two_signs {z : PD} (h : z ∈ [PyData.str "xy", PyData.str "yx"]) : ∃ s : Str, z = .str s ∧ s.length ≤ sizeLine ∧ ∃ (c d : Nat) (l m : FT), atI s.cps.toList 0 = some c ∧ atI s.cps.toList 1 = some d ∧ PyData.str ⟨#[c]⟩ = l.pd ∧ PyData.str ⟨#[d]⟩ = m.pd ∧ isLetter l ∧ isLetter m := by
  simp only [List.mem_cons, List.not_mem_nil, or_false] at h
  rcases h with rfl | rfl
  · exact ⟨_, rfl, by rw [sizeLine_eq]; decide +kernel, 120, 121, .x, .y, by decide +kernel, by decide +kernel, sign1.1, sign1.2, .inl rfl, .inr rfl⟩
  · exact ⟨_, rfl, by rw [sizeLine_eq]; decide +kernel, 121, 120, .y, .x, by decide +kernel, by decide +kernel, sign1.2, sign1.1, .inr rfl, .inl rfl⟩
theorem sp_near : ∀ args Q, S_near.sp args Q → ir_law_near_025f S_one S_draw S_common S_falling S_chain (endsOf args Q) (rho0 N_law_near_025f args) := by
  rintro args Q ⟨b, dk, f, c, rfl, h, hf, c0, c1, q⟩
  refine ⟨rfl, b + 7, dk, 5, rfl, h, ⟨by decide, by decide⟩, fun r1 dk1 a0 a1 d1 => ?_⟩
  refine ⟨rfl, b + 6, dk1, 13, rfl, d1, ⟨by decide, by decide⟩, fun r2 dk2 b0 b1 d2 => ?_⟩
  refine ⟨rfl, b + 5, dk2, _, rfl, d2, ⟨Nat.succ_pos _, by show 2 < 2 ^ 60; decide⟩, fun zi dk3 hz d3 => ?_⟩
  have hzi : ∃ i : Nat, zi = .int i ∧ i ≤ 12 := by
    simp only [List.mem_cons, List.not_mem_nil, or_false] at hz
    rcases hz with rfl | rfl
    · exact ⟨r1.toNat, by rw [Int.toNat_of_nonneg a0]; rfl, by omega⟩
    · exact ⟨r2.toNat, by rw [Int.toNat_of_nonneg b0]; rfl, by omega⟩
  obtain ⟨i, rfl, hi⟩ := hzi
  have mn : (0 : Int) < (if (15 : Int) - ((i : Nat) : Int) < 4 then (15 : Int) - ((i : Nat) : Int) else 4) ∧ (if (15 : Int) - ((i : Nat) : Int) < 4 then (15 : Int) - ((i : Nat) : Int) else 4) ≤ 4 := by split <;> omega
  refine ⟨rfl, b + 4, dk3, _, rfl, d3, ⟨mn.1, log2_const (k := 10) (by omega)⟩, fun r3 dk4 e0 e1 d4 => ?_⟩
  have hj3 : r3 < 4 ∧ r3 < 15 - (i : Nat) ∨ r3 < 4 := by right; omega
  have hj : r3 < 4 := by omega
  have hij : (i : Int) + r3 < 16 := by omega
  obtain ⟨j, rfl⟩ : ∃ j : Nat, r3 = j := ⟨r3.toNat, by omega⟩
  refine ⟨rfl, b + 3, dk4, _, rfl, d4, ⟨Nat.succ_pos _, by show 2 < 2 ^ 60; decide⟩, fun zs dk5 hs d5 => ?_⟩
  obtain ⟨s, rfl, hsl, ca, cb, l, m, x0, x1, y0, y1, il, im⟩ := two_signs hs
  have fp : ∀ n : Nat, n ≤ 12 → 0 < fallI (n : Nat) n ∧ (fallI (n : Nat) n).natAbs < 2 ^ (5 * n + 1) := fun n hn => ⟨by have := fallI_fact n 0; simpa using this, fallI_small (by omega)⟩
  refine ⟨rfl, (i : Nat), i, 5, rfl, by omega, by decide, by omega, by omega, ?_⟩
  refine ⟨rfl, (j : Nat), j, 5, rfl, by omega, by decide, by omega, by omega, ?_⟩
  have fi := fp i hi
  have fj := fp j (by omega)
  refine ⟨mulOk (5 * i + 1) (5 * j + 1) fi.2 fj.2 (by omega) (by omega) (by omega), ?_⟩
  obtain ⟨N, hN⟩ : ∃ N : Nat, fallI (i : Nat) i * fallI (j : Nat) j = (N : Nat) := ⟨(fallI (i : Nat) i * fallI (j : Nat) j).toNat, by rw [Int.toNat_of_nonneg (Int.le_of_lt (Int.mul_pos fi.1 fj.1))]⟩
  refine ⟨rfl, c, N, by rw [← hN], ?_⟩
  have gp : 0 < Nat.gcd c N := Nat.gcd_pos_of_pos_left _ c0
  have gl : Nat.gcd c N ≤ c := Nat.le_of_dvd c0 (Nat.gcd_dvd_left _ _)
  refine ⟨⟨by omega, Nat.lt_trans (log2_const (i := ((Nat.gcd c N : Nat) : Int)) (k := 110) (by rw [Int.natAbs_natCast]; omega)) (by decide)⟩, ?_⟩
  refine ⟨rfl, b + 2, dk5, _, rfl, d5, ⟨Nat.succ_pos _, by show 5 < 2 ^ 60; decide⟩, fun zo dk6 ho d6 => ?_⟩
  have hzo : ∃ o : Int, zo = .int o ∧ -1 ≤ o ∧ o ≤ 1 := by
    have all : ∀ x ∈ [PyData.int 0, .int 0, .int 0, .int 1, .int (-1)], ∃ o : Int, x = .int o ∧ -1 ≤ o ∧ o ≤ 1 := by
      simp only [List.forall_mem_cons]
      exact ⟨⟨_, rfl, by decide, by decide⟩, ⟨_, rfl, by decide, by decide⟩, ⟨_, rfl, by decide, by decide⟩, ⟨_, rfl, by decide, by decide⟩, ⟨_, rfl, by decide, by decide⟩, fun x hx => by cases hx⟩
    exact all zo ho
  obtain ⟨o, rfl, o0, o1⟩ := hzo
  have dv : (0 : Int) ≤ (c : Int) / (Nat.gcd c N : Nat) ∧ (c : Int) / (Nat.gcd c N : Nat) ≤ c := ⟨Int.ediv_nonneg (by omega) (by omega), Int.ediv_le_self _ (by omega)⟩
  have st : (if (c : Int) / (Nat.gcd c N : Nat) + o > 1 then (c : Int) / (Nat.gcd c N : Nat) + o else 1).natAbs < 2 ^ 140 := by split <;> omega
  refine ⟨hsl, ca, x0, rfl, l, i, by rw [← y0], il, by omega, ?_⟩
  refine ⟨hsl, cb, x1, rfl, m, j, by rw [← y1], im, by omega, ?_⟩
  refine ⟨rfl, b + 1, dk6, _, rfl, d6, ⟨Nat.succ_pos _, by show 4 < 2 ^ 60; decide⟩, fun zt dk7 ht d7 => ?_⟩
  have hzt : ∃ o : Int, zt = .int o ∧ o.natAbs < 2 ^ 140 := by
    have all : ∀ x ∈ [PyData.int 1, .int (-1), .int 2, .int 5], ∃ o : Int, x = .int o ∧ o.natAbs < 2 ^ 140 := by
      simp only [List.forall_mem_cons]
      exact ⟨⟨_, rfl, by decide⟩, ⟨_, rfl, by decide⟩, ⟨_, rfl, by decide⟩, ⟨_, rfl, by decide⟩, fun x hx => by cases hx⟩
    exact all zt ht
  obtain ⟨t, rfl, ht'⟩ := hzt
  refine ⟨rfl, b, dk7, _, rfl, d7, ⟨Nat.succ_pos _, by show 3 < 2 ^ 60; decide⟩, fun z dk8 hz d8 => ?_⟩
  have ki := chainF_ok il (n := i) (by omega)
  have kj := chainF_ok im (n := j) (by omega)
  obtain ⟨w, hw⟩ : ∃ w, w = (if (c : Int) / (Nat.gcd c N : Nat) + o > 1 then (c : Int) / (Nat.gcd c N : Nat) + o else 1) := ⟨_, rfl⟩
  rw [← hw] at st
  have key : ∃ g : FT, z = g.pd ∧ g.ok2 := by
    have hz' : z ∈ [(FT.add f (.mul (.mul (.int w) (.int t)) (.mul (chainF l i) (chainF m j)))).pd, (FT.sub f (.mul (.mul (.int w) (.int t)) (.mul (chainF l i) (chainF m j)))).pd, (FT.add (.mul (.mul (.int w) (.int t)) (.mul (chainF l i) (chainF m j))) (.mul (.int 1) f)).pd] := by
      rw [hw]; exact hz
    have fd := f.deg_le
    have fz := f.sz_le (m := 140)
    have fw : (140 + 40) * 2 ^ f.lev ≤ (140 + 40) * 2 ^ 4 := Nat.mul_le_mul_left _ (Nat.pow_le_pow_right (by decide) hf.1)
    have k5 := ki.2.2.2.2
    have l5 := kj.2.2.2.2
    have all : ∀ x ∈ [(FT.add f (.mul (.mul (.int w) (.int t)) (.mul (chainF l i) (chainF m j)))).pd, (FT.sub f (.mul (.mul (.int w) (.int t)) (.mul (chainF l i) (chainF m j)))).pd, (FT.add (.mul (.mul (.int w) (.int t)) (.mul (chainF l i) (chainF m j))) (.mul (.int 1) f)).pd], ∃ g : FT, x = g.pd ∧ g.ok2 := by
      simp only [List.forall_mem_cons]
      refine ⟨⟨_, rfl, ?_, ?_, ⟨hf.2.2, ⟨st, ht'⟩, ki.2.2.1, kj.2.2.1⟩, ?_, ?_⟩, ⟨_, rfl, ?_, ?_, ⟨hf.2.2, ⟨st, ht'⟩, ki.2.2.1, kj.2.2.1⟩, ?_, ?_⟩, ⟨_, rfl, ?_, ?_, ⟨⟨⟨st, ht'⟩, ki.2.2.1, kj.2.2.1⟩, (by decide : (1 : Int).natAbs < 2 ^ 140), hf.2.2⟩, ?_, ?_⟩, fun x hx => by cases hx⟩
      all_goals simp only [FT.lev, FT.e, FT.deg, FT.sz]; omega
    exact all z hz'
  obtain ⟨g, rfl, hg⟩ := key
  exact q g dk8 hg d8
end DL
namespace DL
open PySem L2 PyProof.Rows
def prm : List Nat := [2, 3, 5, 7, 11, 13, 17, 19, 23, 29, 31, 37, 41, 43, 47, 53, 59, 101, 251, 499]
theorem prm_cop : ((List.range 501).all fun p => prm.all fun q => !(decide (2 ≤ p) && decide (p < q)) || Nat.gcd p q == 1) = true := by decide +kernel
theorem prm_big : (prm.all fun q => decide (2 ≤ q) && decide (q ≤ 499)) = true := by decide +kernel
theorem prm_le {q : Nat} (h : q ∈ prm) : 2 ≤ q ∧ q ≤ 499 := by
  have := List.all_eq_true.mp prm_big q h
  simpa using this
theorem cop {p q : Nat} (h2 : 2 ≤ p) (h : p < q) (hq : q ∈ prm) : Nat.Coprime p q := by
  have b := prm_le hq
  have a := List.all_eq_true.mp (List.all_eq_true.mp prm_cop p (List.mem_range.mpr (by omega))) q hq
  simp [h2, h] at a
  exact a
end DL
namespace DL
theorem emod_iff {a b c : Int} : a % c = b % c ↔ c ∣ a - b := by
  rw [Int.emod_eq_emod_iff_emod_sub_eq_zero, ← Int.dvd_iff_emod_eq_zero]
def prodC : List Nat → Nat
  | [] => 1
  | c :: r => c * prodC r
def Cops (cs : List Nat) : Prop := cs.Pairwise fun a b => Nat.gcd a b = 1
theorem cop_prod {a : Nat} : ∀ {cs : List Nat}, (∀ c ∈ cs, Nat.gcd a c = 1) → Nat.gcd a (prodC cs) = 1
  | [], _ => Nat.gcd_one_right _
  | c :: r, h => by
    have h1 : Nat.Coprime a c := h c List.mem_cons_self
    have h2 : Nat.Coprime a (prodC r) := cop_prod fun x hx => h x (List.mem_cons_of_mem _ hx)
    exact h1.mul_right h2
theorem dvd_prod {z : Int} : ∀ {cs : List Nat}, Cops cs → (∀ c ∈ cs, (c : Int) ∣ z) → ((prodC cs : Nat) : Int) ∣ z
  | [], _, _ => ⟨z, by simp [prodC]⟩
  | c :: r, h, d => by
    obtain ⟨h1, h2⟩ := List.pairwise_cons.mp h
    have d1 : c ∣ z.natAbs := Int.ofNat_dvd_left.mp (d c List.mem_cons_self)
    have d2 : prodC r ∣ z.natAbs := Int.ofNat_dvd_left.mp (dvd_prod h2 fun x hx => d x (List.mem_cons_of_mem _ hx))
    have g : Nat.Coprime c (prodC r) := cop_prod h1
    exact Int.ofNat_dvd_left.mpr (g.mul_dvd_of_dvd_of_dvd d1 d2)
theorem dvd_prodC : ∀ {cs : List Nat} {c : Nat}, c ∈ cs → c ∣ prodC cs
  | a :: r, c, h => by
    rcases List.mem_cons.mp h with rfl | h
    · exact Nat.dvd_mul_right _ _
    · exact Nat.dvd_trans (dvd_prodC h) (Nat.dvd_mul_left _ _)
theorem prodC_snoc (a : Nat) : ∀ cs : List Nat, prodC (cs ++ [a]) = prodC cs * a
  | [] => by simp [prodC]
  | q :: r => by
    show q * prodC (r ++ [a]) = q * prodC r * a
    rw [prodC_snoc a r, Nat.mul_assoc]
def Crt (cs : List Nat) (rs : List Int) (e : Int) : Prop := 0 ≤ e ∧ e < (prodC cs : Nat) ∧ ∀ (j c : Nat) (r : Int), cs[j]? = some c → rs[j]? = some r → e % (c : Int) = r % (c : Int)
theorem Crt.uniq {cs : List Nat} {rs : List Int} {e e' : Int} (hc : Cops cs) (hl : rs.length = cs.length) (h : Crt cs rs e) (h' : Crt cs rs e') : e = e' := by
  have d : ((prodC cs : Nat) : Int) ∣ e - e' := dvd_prod hc fun c hm => by
    obtain ⟨j, hj⟩ := List.mem_iff_getElem?.mp hm
    have jl : j < rs.length := by rw [hl]; exact (List.getElem?_eq_some_iff.mp hj).1
    have a := h.2.2 j c rs[j] hj (List.getElem?_eq_getElem jl)
    have b := h'.2.2 j c rs[j] hj (List.getElem?_eq_getElem jl)
    exact emod_iff.mp (a.trans b.symm)
  have m := emod_iff.mpr d
  rw [Int.emod_eq_of_lt h.1 h.2.1, Int.emod_eq_of_lt h'.1 h'.2.1] at m
  exact m
theorem Crt.nil : Crt [] [] 0 := ⟨Int.le_refl 0, by decide, fun j c r h => by simp at h⟩
theorem Crt.snoc {cs : List Nat} {rs : List Int} {e : Int} {c : Nat} {r v : Int} (h : Crt cs rs e) (hl : rs.length = cs.length) (c0 : 0 < c) (hv : ((prodC cs : Nat) : Int) * v % (c : Int) = 1 % (c : Int)) :
    Crt (cs ++ [c]) (rs ++ [r]) (e + ((prodC cs : Nat) : Int) * ((r - e) * v % (c : Int))) := by
  obtain ⟨e0, e1, ee⟩ := h
  obtain ⟨W, hW⟩ : ∃ W : Int, W = ((prodC cs : Nat) : Int) := ⟨_, rfl⟩
  obtain ⟨u, hu⟩ : ∃ u : Int, u = (r - e) * v % (c : Int) := ⟨_, rfl⟩
  have u0 : 0 ≤ u := by rw [hu]; exact Int.emod_nonneg _ (by omega)
  have u1 : u < c := by rw [hu]; exact Int.emod_lt_of_pos _ (by omega)
  have W0 : 0 ≤ W := by rw [hW]; omega
  rw [← hW] at e1 hv ⊢
  rw [← hu]
  refine ⟨Int.add_nonneg e0 (Int.mul_nonneg W0 u0), ?_, fun j d q hj hq => ?_⟩
  · have e2 : ((prodC (cs ++ [c]) : Nat) : Int) = W * c := by rw [prodC_snoc, hW]; exact_mod_cast rfl
    rw [e2]
    have : W * u + W ≤ W * c := by
      rw [show W * u + W = W * (u + 1) by grind]
      exact Int.mul_le_mul_of_nonneg_left (by omega) W0
    omega
  · rcases Nat.lt_or_ge j cs.length with hjl | hjl
    · rw [List.getElem?_append_left hjl] at hj
      rw [List.getElem?_append_left (by omega)] at hq
      have a := ee j d q hj hq
      have dv : (d : Int) ∣ W := by rw [hW]; exact Int.natCast_dvd_natCast.mpr (dvd_prodC (List.mem_of_getElem? hj))
      rw [← a]
      exact emod_iff.mpr ⟨W / d * u, by
        have := Int.mul_ediv_cancel' dv
        rw [← Int.mul_assoc, this]; omega⟩
    · rw [List.getElem?_append_right hjl] at hj
      rw [List.getElem?_append_right (by omega)] at hq
      have j0 : j - cs.length = 0 := by
        rcases Nat.eq_zero_or_pos (j - cs.length) with z | z
        · exact z
        · rw [List.getElem?_eq_none (by simp; omega)] at hj; cases hj
      rw [j0] at hj
      rw [hl, j0] at hq
      cases hj
      cases hq
      have a : W * u % (c : Int) = (r - e) % (c : Int) := by
        have z : (r - e) * v % (c : Int) % (c : Int) = (r - e) * v % (c : Int) := Int.emod_emod_of_dvd _ (Int.dvd_refl _)
        rw [hu, Int.mul_emod, z, ← Int.mul_emod, show W * ((r - e) * v) = (r - e) * (W * v) by grind, Int.mul_emod, hv, ← Int.mul_emod, Int.mul_one]
      rw [Int.add_emod, a, ← Int.add_emod]
      congr 1
      omega
def Met (ns : List Int) (a b : Nat) : Prop := a < b ∧ b < ns.length ∧ ns[a]? = ns[b]? ∧ (ns.take b).Nodup
theorem nodup_at {ns : List Int} {a b : Nat} (h : ns.Nodup) (hb : b < ns.length) (hab : a < b) (e : ns[a]? = ns[b]?) : False := by
  rw [List.getElem?_eq_getElem (by omega), List.getElem?_eq_getElem hb] at e
  exact List.pairwise_iff_getElem.mp h a b (by omega) hb hab (Option.some.inj e)
theorem Met.not {ns : List Int} {a b : Nat} (h : Met ns a b) : ¬ ns.Nodup := fun z => nodup_at z h.2.1 h.1 h.2.2.1
theorem Met.uniq {ns : List Int} {a b a' b' : Nat} (h : Met ns a b) (h' : Met ns a' b') : a = a' ∧ b = b' := by
  have le : ∀ {a b a' b' : Nat}, Met ns a b → Met ns a' b' → b' ≤ b := fun {a b a' b'} h h' => by
    rcases Nat.lt_or_ge b b' with z | z
    · exfalso
      refine nodup_at h'.2.2.2 (a := a) (b := b) (by rw [List.length_take]; have := h'.2.1; omega) h.1 ?_
      rw [List.getElem?_take_of_lt (by have := h.1; omega), List.getElem?_take_of_lt z]
      exact h.2.2.1
    · exact z
  have eb : b = b' := Nat.le_antisymm (le h' h) (le h h')
  subst eb
  refine ⟨?_, rfl⟩
  have both : ns[a]? = ns[a']? := h.2.2.1.trans h'.2.2.1.symm
  have al : a < (ns.take b).length := by rw [List.length_take]; have := h.1; have := h.2.1; omega
  have al' : a' < (ns.take b).length := by rw [List.length_take]; have := h'.1; have := h'.2.1; omega
  have t : ∀ {x}, x < b → (ns.take b)[x]? = ns[x]? := fun hx => List.getElem?_take_of_lt hx
  rcases Nat.lt_trichotomy a a' with z | z | z
  · exact absurd (nodup_at h.2.2.2 al' z (by rw [t h.1, t h'.1]; exact both)) id
  · exact z
  · exact absurd (nodup_at h.2.2.2 al z (by rw [t h.1, t h'.1]; exact both.symm)) id
theorem Crt.ends {cs : List Nat} {rs rs' : List Int} {e e' : Int} {k c : Nat} {a a' : Int} (h : Crt cs rs e) (h' : Crt cs rs' e') (hk : cs[k]? = some c) (hr : rs[k]? = some a) (hr' : rs'[k]? = some a') (hne : ¬ a % (c : Int) = a' % (c : Int)) : e ≠ e' := fun z => by
  subst z
  have x := h.2.2 k c a hk hr
  have y := h'.2.2 k c a' hk hr'
  exact hne (x.symm.trans y)
end DL
namespace DL
open PySem L2 PyProof.Rows
theorem fall_shift (x : Int) : ∀ n : Nat, fallI (x + 1) (n + 1) = (x + 1) * fallI x n
  | 0 => by simp [fallI]
  | n + 1 => by
    rw [fallI, fall_shift x n, fallI]
    have : ((n + 1 : Nat) : Int) = (n : Int) + 1 := by omega
    rw [this]
    grind
theorem fall_diff (x : Int) (n : Nat) : fallI (x + 1) (n + 1) - fallI x (n + 1) = ((n : Int) + 1) * fallI x n := by
  rw [fall_shift, fallI]
  grind
theorem fall_zero : ∀ n : Nat, fallI 0 (n + 1) = 0
  | 0 => by simp [fallI]
  | n + 1 => by rw [fallI, fall_zero n, Int.zero_mul]
theorem fall_self_pos (n : Nat) : 0 < fallI (n : Nat) n := by have := fallI_fact n 0; simpa using this
theorem fall_over : ∀ {i k : Nat}, i < k → fallI (i : Nat) k = 0
  | i, k + 1, h => by
    rw [fallI]
    by_cases e : i = k
    · subst e; rw [Int.sub_self, Int.mul_zero]
    · rw [fall_over (i := i) (k := k) (by omega), Int.zero_mul]
abbrev F2I := Int → Int → Int
def dX (f : F2I) : F2I := fun x y => f (x + 1) y - f x y
def dY (f : F2I) : F2I := fun x y => f x (y + 1) - f x y
def itX : Nat → F2I → F2I
  | 0, f => f
  | n + 1, f => dX (itX n f)
def itY : Nat → F2I → F2I
  | 0, f => f
  | n + 1, f => dY (itY n f)
def dd (i j : Nat) (f : F2I) : Int := itX i (itY j f) 0 0
def addF (f g : F2I) : F2I := fun x y => f x y + g x y
theorem itX_add (f g : F2I) : ∀ n, itX n (addF f g) = addF (itX n f) (itX n g)
  | 0 => rfl
  | n + 1 => by
    rw [itX, itX_add f g n, itX, itX]
    funext x y
    simp only [dX, addF]
    omega
theorem itY_add (f g : F2I) : ∀ n, itY n (addF f g) = addF (itY n f) (itY n g)
  | 0 => rfl
  | n + 1 => by
    rw [itY, itY_add f g n, itY, itY]
    funext x y
    simp only [dY, addF]
    omega
theorem dd_add (i j : Nat) (f g : F2I) : dd i j (addF f g) = dd i j f + dd i j g := by
  unfold dd
  rw [itY_add, itX_add]
  rfl
def trm (c : Int) (i j : Nat) : F2I := fun x y => c * fallI x i * fallI y j
theorem itX_trm (c : Int) (i j : Nat) : ∀ k, itX k (trm c i j) = trm (c * fallI (i : Nat) k) (i - k) j
  | 0 => by simp [itX, fallI]
  | k + 1 => by
    rw [itX, itX_trm c i j k]
    funext x y
    simp only [dX, trm, fallI]
    by_cases h : k < i
    · obtain ⟨m, rfl⟩ : ∃ m, i = k + 1 + m := ⟨i - k - 1, by omega⟩
      rw [show k + 1 + m - k = m + 1 by omega, show k + 1 + m - (k + 1) = m by omega]
      have d := fall_diff x m
      have e : (((k + 1 + m : Nat) : Int) - (k : Nat)) = (m : Int) + 1 := by omega
      rw [e]
      grind
    · rw [show i - k = 0 by omega, show i - (k + 1) = 0 by omega]
      have z : fallI (i : Nat) k * ((i : Nat) - (k : Nat) : Int) = 0 := by
        by_cases e : i = k
        · subst e; rw [Int.sub_self, Int.mul_zero]
        · rw [fall_over (by omega), Int.zero_mul]
      rw [z]
      simp [fallI]
theorem itY_trm (c : Int) (i j : Nat) : ∀ k, itY k (trm c i j) = trm (c * fallI (j : Nat) k) i (j - k)
  | 0 => by simp [itY, fallI]
  | k + 1 => by
    rw [itY, itY_trm c i j k]
    funext x y
    simp only [dY, trm, fallI]
    by_cases h : k < j
    · obtain ⟨m, rfl⟩ : ∃ m, j = k + 1 + m := ⟨j - k - 1, by omega⟩
      rw [show k + 1 + m - k = m + 1 by omega, show k + 1 + m - (k + 1) = m by omega]
      have d := fall_diff y m
      have e : (((k + 1 + m : Nat) : Int) - (k : Nat)) = (m : Int) + 1 := by omega
      rw [e]
      grind
    · rw [show j - k = 0 by omega, show j - (k + 1) = 0 by omega]
      have z : fallI (j : Nat) k * ((j : Nat) - (k : Nat) : Int) = 0 := by
        by_cases e : j = k
        · subst e; rw [Int.sub_self, Int.mul_zero]
        · rw [fall_over (by omega), Int.zero_mul]
      rw [z]
      simp [fallI]
theorem dd_trm (c : Int) (i j k l : Nat) : dd k l (trm c i j) = if k = i ∧ l = j then c * (fallI (i : Nat) i * fallI (j : Nat) j) else 0 := by
  unfold dd
  rw [itY_trm, itX_trm]
  simp only [trm]
  by_cases h1 : k = i
  · by_cases h2 : l = j
    · subst h1; subst h2
      rw [if_pos ⟨rfl, rfl⟩, Nat.sub_self, Nat.sub_self]
      simp only [fallI]
      grind
    · rw [if_neg fun z => h2 z.2]
      by_cases h3 : l < j
      · obtain ⟨m, e⟩ : ∃ m, j - l = m + 1 := ⟨j - l - 1, by omega⟩
        rw [e, fall_zero, Int.mul_zero]
      · rw [fall_over (i := j) (k := l) (by omega)]
        simp
  · rw [if_neg fun z => h1 z.1]
    by_cases h3 : k < i
    · obtain ⟨m, e⟩ : ∃ m, i - k = m + 1 := ⟨i - k - 1, by omega⟩
      rw [e, fall_zero]
      simp
    · rw [fall_over (i := i) (k := k) (by omega)]
      simp
inductive Pol (d : Nat) : F2I → Prop
  | trm (c : Int) (i j : Nat) : i + j ≤ d → Pol d (trm c i j)
  | add {f g : F2I} : Pol d f → Pol d g → Pol d (addF f g)
theorem Pol.mono {d e : Nat} {f : F2I} (h : Pol d f) (he : d ≤ e) : Pol e f := by
  induction h with
  | trm c i j h => exact .trm c i j (by omega)
  | add _ _ a b => exact .add a b
theorem Pol.mulX {d : Nat} {f : F2I} (h : Pol d f) (a : Int) : Pol (d + 1) (fun x y => f x y * (x - a)) := by
  induction h with
  | trm c i j h =>
    have e : (fun x y => DL.trm c i j x y * (x - a)) = addF (DL.trm c (i + 1) j) (DL.trm (c * ((i : Int) - a)) i j) := by
      funext x y
      simp only [DL.trm, addF, fallI]
      grind
    rw [e]
    exact .add (.trm _ _ _ (by omega)) (.trm _ _ _ (by omega))
  | @add f g _ _ p q =>
    have e : (fun x y => addF f g x y * (x - a)) = addF (fun x y => f x y * (x - a)) (fun x y => g x y * (x - a)) := by
      funext x y
      simp only [addF]
      grind
    rw [e]
    exact .add p q
theorem Pol.mulY {d : Nat} {f : F2I} (h : Pol d f) (a : Int) : Pol (d + 1) (fun x y => f x y * (y - a)) := by
  induction h with
  | trm c i j h =>
    have e : (fun x y => DL.trm c i j x y * (y - a)) = addF (DL.trm c i (j + 1)) (DL.trm (c * ((j : Int) - a)) i j) := by
      funext x y
      simp only [DL.trm, addF, fallI]
      grind
    rw [e]
    exact .add (.trm _ _ _ (by omega)) (.trm _ _ _ (by omega))
  | @add f g _ _ p q =>
    have e : (fun x y => addF f g x y * (y - a)) = addF (fun x y => f x y * (y - a)) (fun x y => g x y * (y - a)) := by
      funext x y
      simp only [addF]
      grind
    rw [e]
    exact .add p q
theorem Pol.mulC {d : Nat} {f : F2I} (h : Pol d f) (a : Int) : Pol d (fun x y => f x y * a) := by
  induction h with
  | trm c i j h =>
    have e : (fun x y => DL.trm c i j x y * a) = DL.trm (c * a) i j := by
      funext x y
      simp only [DL.trm]
      grind
    rw [e]
    exact .trm _ _ _ h
  | @add f g _ _ p q =>
    have e : (fun x y => addF f g x y * a) = addF (fun x y => f x y * a) (fun x y => g x y * a) := by
      funext x y
      simp only [addF]
      grind
    rw [e]
    exact .add p q
theorem Pol.mulFX {d : Nat} {f : F2I} (h : Pol d f) : ∀ n : Nat, Pol (d + n) (fun x y => f x y * fallI x n)
  | 0 => by
    have e : (fun x y => f x y * fallI x 0) = f := by funext x y; simp [fallI]
    rw [e]; exact h
  | n + 1 => by
    have e : (fun x y => f x y * fallI x (n + 1)) = fun x y => (f x y * fallI x n) * (x - (n : Nat)) := by funext x y; rw [fallI, Int.mul_assoc]
    rw [e]
    exact (Pol.mulFX h n).mulX _
theorem Pol.mulFY {d : Nat} {f : F2I} (h : Pol d f) : ∀ n : Nat, Pol (d + n) (fun x y => f x y * fallI y n)
  | 0 => by
    have e : (fun x y => f x y * fallI y 0) = f := by funext x y; simp [fallI]
    rw [e]; exact h
  | n + 1 => by
    have e : (fun x y => f x y * fallI y (n + 1)) = fun x y => (f x y * fallI y n) * (y - (n : Nat)) := by funext x y; rw [fallI, Int.mul_assoc]
    rw [e]
    exact (Pol.mulFY h n).mulY _
theorem Pol.mul {d e : Nat} {f g : F2I} (hf : Pol d f) (hg : Pol e g) : Pol (d + e) (fun x y => f x y * g x y) := by
  induction hg with
  | trm c i j h =>
    have q : (fun x y => f x y * DL.trm c i j x y) = fun x y => (f x y * c * fallI x i) * fallI y j := by
      funext x y
      simp only [DL.trm]
      grind
    rw [q]
    exact (((hf.mulC c).mulFX i).mulFY j).mono (by omega)
  | @add g1 g2 _ _ p q =>
    have w : (fun x y => f x y * addF g1 g2 x y) = addF (fun x y => f x y * g1 x y) (fun x y => f x y * g2 x y) := by
      funext x y
      simp only [addF]
      grind
    rw [w]
    exact .add p q
theorem Pol.const (c : Int) : Pol 0 (fun _ _ => c) := by
  have e : (fun _ _ => c : F2I) = DL.trm c 0 0 := by funext x y; simp [DL.trm, fallI]
  rw [e]; exact .trm _ _ _ (by decide)
theorem Pol.pow {d : Nat} {f : F2I} (h : Pol d f) : ∀ n : Nat, Pol (d * n) (fun x y => f x y ^ n)
  | 0 => by
    have e : (fun x y => f x y ^ 0) = fun _ _ => (1 : Int) := by funext x y; rw [Int.pow_zero]
    rw [e, Nat.mul_zero]; exact .const 1
  | n + 1 => by
    have e : (fun x y => f x y ^ (n + 1)) = fun x y => f x y ^ n * f x y := by funext x y; rw [Int.pow_succ]
    rw [e, Nat.mul_succ]
    exact (Pol.pow h n).mul h
theorem FT.pol : ∀ f : FT, Pol f.deg (fun u v => f.val u v)
  | int i => Pol.const i
  | x => by
    have e : (fun u v => FT.x.val u v) = trm 1 1 0 := by funext u v; simp [val, trm, fallI]
    rw [e]; exact .trm _ _ _ (by decide)
  | y => by
    have e : (fun u v => FT.y.val u v) = trm 1 0 1 := by funext u v; simp [val, trm, fallI]
    rw [e]; exact .trm _ _ _ (by decide)
  | add a b => .add (a.pol.mono (Nat.le_max_left _ _)) (b.pol.mono (Nat.le_max_right _ _))
  | sub a b => by
    have e : (fun u v => (sub a b).val u v) = addF (fun u v => a.val u v) (fun u v => b.val u v * (-1)) := by
      funext u v
      simp only [val, addF]
      omega
    rw [e]
    exact .add (a.pol.mono (Nat.le_max_left _ _)) ((b.pol.mulC (-1)).mono (Nat.le_max_right _ _))
  | mul a b => a.pol.mul b.pol
  | pow a n => a.pol.pow n
def fac2 (i j : Nat) : Int := fallI (i : Nat) i * fallI (j : Nat) j
theorem fac2_pos (i j : Nat) : 0 < fac2 i j := Int.mul_pos (fall_self_pos i) (fall_self_pos j)
theorem Pol.dvd {d : Nat} {f : F2I} (h : Pol d f) (i j : Nat) : fac2 i j ∣ dd i j f := by
  induction h with
  | trm c a b _ =>
    rw [dd_trm]
    split
    · rename_i e; obtain ⟨rfl, rfl⟩ := e; exact ⟨c, by rw [Int.mul_comm]; rfl⟩
    · exact Int.dvd_zero _
  | add _ _ p q => rw [dd_add]; exact Int.dvd_add p q
theorem Pol.zero {d : Nat} {f : F2I} (h : Pol d f) {i j : Nat} (hd : d < i + j) : dd i j f = 0 := by
  induction h with
  | trm c a b hab =>
    rw [dd_trm, if_neg]
    rintro ⟨rfl, rfl⟩
    omega
  | add _ _ p q => rw [dd_add, p, q]; rfl
def cof (f : F2I) (i j : Nat) : Int := dd i j f / fac2 i j
theorem cof_add {d : Nat} {f g : F2I} (hf : Pol d f) (hg : Pol d g) (i j : Nat) : cof (addF f g) i j = cof f i j + cof g i j := by
  unfold cof
  rw [dd_add, Int.add_ediv_of_dvd_left (hf.dvd i j)]
theorem cof_trm (c : Int) (a b i j : Nat) : cof (trm c a b) i j = if i = a ∧ j = b then c else 0 := by
  unfold cof
  rw [dd_trm]
  split
  · rename_i e; obtain ⟨rfl, rfl⟩ := e
    exact Int.mul_ediv_cancel _ (Int.ne_of_gt (fac2_pos i j))
  · exact Int.zero_ediv _
def sumN : Nat → (Nat → Int) → Int
  | 0, _ => 0
  | n + 1, g => sumN n g + g n
theorem sumN_add (f g : Nat → Int) : ∀ n, sumN n (fun i => f i + g i) = sumN n f + sumN n g
  | 0 => rfl
  | n + 1 => by rw [sumN, sumN_add f g n, sumN, sumN]; omega
theorem sumN_zero {f : Nat → Int} : ∀ {n : Nat}, (∀ i, i < n → f i = 0) → sumN n f = 0
  | 0, _ => rfl
  | n + 1, h => by rw [sumN, sumN_zero fun i hi => h i (by omega), h n (by omega)]; rfl
theorem sumN_congr {f g : Nat → Int} : ∀ {n : Nat}, (∀ i, i < n → f i = g i) → sumN n f = sumN n g
  | 0, _ => rfl
  | n + 1, h => by rw [sumN, sumN, sumN_congr fun i hi => h i (by omega), h n (by omega)]
theorem sumN_one {f : Nat → Int} {k : Nat} : ∀ {n : Nat}, k < n → (∀ i, i ≠ k → f i = 0) → sumN n f = f k
  | n + 1, h, z => by
    rw [sumN]
    by_cases e : k = n
    · subst e; rw [sumN_zero fun i hi => z i (by omega), Int.zero_add]
    · rw [sumN_one (n := n) (by omega) z, z n (by omega), Int.add_zero]
theorem Pol.whole {d N : Nat} {f : F2I} (h : Pol d f) (hN : d < N) (x y : Int) : f x y = sumN N fun i => sumN N fun j => cof f i j * fallI x i * fallI y j := by
  induction h with
  | trm c a b hab =>
    rw [sumN_one (k := a) (by omega)]
    · rw [sumN_one (k := b) (by omega)]
      · rw [cof_trm, if_pos ⟨rfl, rfl⟩]; rfl
      · intro j hj; rw [cof_trm, if_neg fun z => hj z.2, Int.zero_mul, Int.zero_mul]
    · intro i hi
      exact sumN_zero fun j _ => by rw [cof_trm, if_neg fun z => hi z.1, Int.zero_mul, Int.zero_mul]
  | @add f g hf hg p q =>
    have e : (fun i => sumN N fun j => cof (addF f g) i j * fallI x i * fallI y j) = fun i => (sumN N fun j => cof f i j * fallI x i * fallI y j) + sumN N fun j => cof g i j * fallI x i * fallI y j := by
      funext i
      rw [← sumN_add]
      exact sumN_congr fun j _ => by rw [cof_add hf hg]; grind
    rw [e, sumN_add, ← p, ← q]
    rfl
end DL
namespace DL
open PySem L2 PyProof.Rows
theorem fall_fact (n : Nat) : fallI ((n + 1 : Nat) : Int) (n + 1) = ((n + 1 : Nat) : Int) * fallI (n : Nat) n := by
  have := fall_shift (n : Int) n
  rw [show ((n + 1 : Nat) : Int) = (n : Int) + 1 by omega]
  exact this
theorem fact_small {n : Nat} (h : n ≤ 1000) : (fallI (n : Nat) n).natAbs < 2 ^ (11 * n + 1) := fallI_small (by omega)
def S_factorial : FSpec := ⟨fun args Q => ∃ n : Nat, args = [.d (.int n)] ∧ n ≤ 1000 ∧ Q (.d (.int (fallI (n : Nat) n))) []⟩
abbrev N_factorial : List Str := ["number", "found", "k"]
def ir_factorial : TSt :=
  (sSeq (sAsg 1 (fD (dC (.int 1))))
    (sSeq (sFor (iRg (aCons (.e (dC (.int 2))) (aCons (.e (dBin bAdd (.s 0) (.e (dC (.int 1))))) aNil))) (.nm 2) (sAsg 1 (fD (dBin bMulI (.s 1) (.s 2)))))
    (sRetV 1)))
theorem sp_factorial : ∀ args Q, S_factorial.sp args Q → ir_factorial (endsOf args Q) (rho0 N_factorial args) := by
  rintro args Q ⟨n, rfl, hn, q⟩
  refine ⟨⟨by decide, by decide, by omega, by omega⟩, _, rfl, fun i ρ => ∃ t, ρ = [some (.d (.int n)), some (.d (.int (fallI ((i + 1 : Nat) : Int) (i + 1)))), t], ⟨none, rfl⟩, ?_, ?_⟩
  · rintro i y ρ hx ⟨t, rfl⟩
    obtain ⟨rfl, hi⟩ := rngD_get hx
    have hi : i < ((n : Int) + 1 - 2).toNat := hi
    have e : (2 : Int) + (i : Nat) = ((i + 1 + 1 : Nat) : Int) := by omega
    rw [e]
    refine ⟨mulOk (11 * (i + 1) + 1) 20 (fact_small (by omega)) (by omega) (by omega) (by omega) (by decide), ?_⟩
    refine ⟨some (.d (.int ((i + 1 + 1 : Nat) : Int))), ?_⟩
    rw [fall_fact (i + 1), Int.mul_comm]
    rfl
  · rintro ρ ⟨t, rfl⟩
    have el : (rngD 2 ((n : Int) + 1 - 2).toNat).length = n - 1 := by rw [rngD_len]; omega
    rw [el]
    have ev : fallI ((n - 1 + 1 : Nat) : Int) (n - 1 + 1) = fallI (n : Nat) n := by
      cases n with
      | zero => decide
      | succ n => rfl
    rw [ev]
    exact q
def stepL (ns : List Int) : List Int := List.zipWith (fun a b => b - a) ns ns.tail
def diffsF : Nat → List Int → List Int
  | 0, _ => []
  | _ + 1, [] => []
  | n + 1, a :: r => a :: diffsF n (stepL (a :: r))
def diffs (ns : List Int) : List Int := diffsF ns.length ns
theorem stepL_len (a : Int) (r : List Int) : (stepL (a :: r)).length = r.length := by unfold stepL; simp
theorem cut_tail {α : Type} (xs : List α) : cutD xs (some 1) none = xs.tail := by
  unfold cutD
  have h : HT.sIx xs.length 0 (some 1) = min 1 xs.length := HT.sIx_nat _ _ 1
  rw [h, HT.sIx_none]
  cases xs with
  | nil => rfl
  | cons x r =>
    rw [List.length_cons, Nat.min_eq_left (by omega)]
    simp
theorem at0 {α : Type} (a : α) (r : List α) : atI (a :: r) 0 = some a := by
  obtain ⟨x, h1, h2⟩ := atI_some (xs := a :: r) (i := 0) (Int.le_refl _) (by rw [List.length_cons]; omega)
  have : x = a := by simpa using h2.symm
  rw [h1, this]
def S_differences : FSpec := ⟨fun args Q => ∃ ns : List Int, args = [.d (.list (ns.map .int))] ∧ ns.length ≤ 100000 ∧ Q (.d (.list ((diffs ns).map .int))) []⟩
def lenAt (i : Nat) (ρ : En) : Nat := match ρ[i]? with
  | some (some (.d (.list xs))) => xs.length
  | some (some (.ls _ xs)) => xs.length
  | _ => 0
abbrev N_differences : List Str := ["items", "found", "earlier", "later"]
def ir_differences : TSt :=
  (sSeq (sAsg 1 (fLst aNil))
    (sSeq (sWhile (tVal (dBin cNe (.s 0) (.e (dFz (fLst aNil))))) (sSeq (sApp 1 (dBin bIx (.s 0) (.e (dC (.int 0)))))
    (sAsg 0 (fLc (iZp (aCons (.e (dVar 0)) (aCons (.e (dSl (.s 0) (pSome (.e (dC (.int 1)))) pNone)) aNil))) [2, 3] (.tp [2, 3]) cYes (dBin bSub (.s 3) (.s 2))))))
    (sRetV 1)))
theorem sp_differences : ∀ args Q, S_differences.sp args Q → ir_differences (endsOf args Q) (rho0 N_differences args) := by
  rintro args Q ⟨ns, rfl, hlen, q⟩
  refine ⟨fun ρ => ∃ (ms fs : List Int) (l : Lc), ρ = [some l, some (.ls none (fs.map .int)), none, none] ∧ (l = .d (.list (ms.map .int)) ∨ l = .ls none (ms.map .int)) ∧ fs ++ diffs ms = diffs ns ∧ fs.length + ms.length ≤ 100000, lenAt 0, ⟨ns, [], _, rfl, .inl rfl, rfl, by simpa using hlen⟩, ?_⟩
  rintro ρ ⟨ms, fs, l, rfl, hl, hd, hb⟩
  have shpM : ∀ ms : List Int, shp (.list (ms.map PyData.int)) := fun ms => (Shp.list (n := 0) (Shp.ints ms)).shp
  have fin : ms = [] → Q (.d (.list (fs.map .int))) [] := fun e => by
    subst e
    have : fs = diffs ns := by rw [← hd]; simp [diffs, diffsF]
    rw [this]; exact q
  have tl : ∀ (a : Int) (r : List Int), zipD ((a :: r).map PyData.int) (cutD ((a :: r).map PyData.int) (some 1) none) = List.zipWith (fun a b => PyData.tuple [.int a, .int b]) (a :: r) r := fun a r => by
    rw [cut_tail]
    unfold zipD
    rw [List.map_cons, List.tail_cons, ← List.map_cons, List.zipWith_map]
  have nxt : ∀ (a : Int) (r : List Int), ms = a :: r → (fs ++ [a]) ++ diffs (stepL (a :: r)) = diffs ns ∧ (fs ++ [a]).length + (stepL (a :: r)).length ≤ 100000 := fun a r e => by
    subst e
    refine ⟨?_, ?_⟩
    · rw [← hd]
      unfold diffs
      rw [stepL_len, List.length_cons, diffsF, List.append_assoc]
      rfl
    · rw [stepL_len, List.length_append]
      simp at hb ⊢
      omega
  have pre : ∀ (a : Int) (r : List Int) (i : Nat) (x : PD), (List.zipWith (fun a b => PyData.tuple [.int a, .int b]) (a :: r) r)[i]? = some x → ∃ u v : Int, x = .tuple [.int u, .int v] ∧ (stepL (a :: r))[i]? = some (v - u) := fun a r i x h => by
    rw [List.getElem?_zipWith] at h
    unfold stepL
    rw [List.tail_cons, List.getElem?_zipWith]
    cases e1 : (a :: r)[i]? with
    | none => rw [e1] at h; simp at h
    | some u =>
      cases e2 : r[i]? with
      | none => rw [e1, e2] at h; simp at h
      | some v => rw [e1, e2] at h; simp at h; exact ⟨u, v, h.symm, rfl⟩
  have ln : ∀ (a : Int) (r : List Int), (List.zipWith (fun a b => PyData.tuple [.int a, .int b]) (a :: r) r).length = (stepL (a :: r)).length := fun a r => by rw [stepL_len]; simp
  have emp : ∀ ms : List Int, (!PyData.eqv (.list (ms.map PyData.int)) (.list [])) = true → ∃ a r, ms = a :: r := fun ms h => by
    cases ms with
    | nil => simp [eqv_nil] at h
    | cons a r => exact ⟨a, r, rfl⟩
  have emp2 : ∀ ms : List Int, (!PyData.eqv (.list (ms.map PyData.int)) (.list [])) = false → ms = [] := fun ms h => by
    cases ms with
    | nil => rfl
    | cons a r => simp [eqv_nil] at h
  rcases hl with rfl | rfl
  all_goals
    refine ⟨shpM ms, ⟨rfl, rfl⟩, fun h => ?_, fun h => ?_⟩
    · obtain ⟨a, r, e⟩ := emp ms h
      subst e
      obtain ⟨n1, n2⟩ := nxt a r rfl
      refine ⟨.int a, at0 _ _, ?_, ?_⟩
      · rw [List.length_map, sizeLine_eq]; simp at hb; omega
      refine ⟨⟨rfl, rfl⟩, fun i acc ρ => acc = ((stepL (a :: r)).take i).map .int ∧ ρ = [some (.d (.list ((a :: r).map .int))), some (.ls none ((fs ++ [a]).map .int)), none, none], ?_, fun _ _ _ _ => trivial, ?_, ?_⟩
      · refine ⟨rfl, ?_⟩
        rw [List.map_append]
        rfl
      · rintro i x acc ρ hx ⟨rfl, rfl⟩
        have hx : (zipD ((a :: r).map PyData.int) (cutD ((a :: r).map PyData.int) (some 1) none))[i]? = some x := hx
        rw [tl] at hx
        obtain ⟨u, v, rfl, hs⟩ := pre a r i x hx
        refine ⟨rfl, fun _ => ⟨?_, ?_, rfl⟩, nofun⟩
        · rw [List.length_map, List.length_take, sizeLine_eq]
          have := stepL_len a r
          simp at hb
          omega
        · rw [List.take_add_one, hs, Option.toList_some, List.map_append]
          rfl
      · rintro acc ρ ⟨rfl, rfl⟩
        have el : (Wk.items (zipD ((a :: r).map PyData.int) (cutD ((a :: r).map PyData.int) (some 1) none))).list.length = (stepL (a :: r)).length := by
          show (zipD ((a :: r).map PyData.int) (cutD ((a :: r).map PyData.int) (some 1) none)).length = _
          rw [tl, ln]
        rw [el, List.take_length]
        refine ⟨⟨stepL (a :: r), fs ++ [a], _, rfl, .inr rfl, n1, n2⟩, ?_⟩
        show ((stepL (a :: r)).map PyData.int).length < ((a :: r).map PyData.int).length
        rw [List.length_map, List.length_map, stepL_len]
        exact Nat.lt_succ_self _
    · have := fin (emp2 ms h)
      exact .inr ⟨rfl, this⟩
end DL
namespace DL
open PySem L2 PyProof.Rows
def dN (g : Nat → Int) : Nat → Int := fun k => g (k + 1) - g k
def itN : Nat → (Nat → Int) → Nat → Int
  | 0, g => g
  | n + 1, g => itN n (dN g)
theorem itN_succ (g : Nat → Int) : ∀ n k, itN (n + 1) g k = itN n g (k + 1) - itN n g k
  | 0, k => rfl
  | n + 1, k => by
    show itN (n + 1) (dN g) k = itN n (dN g) (k + 1) - itN n (dN g) k
    exact itN_succ (dN g) n k
theorem stepL_range (g : Nat → Int) (n : Nat) : stepL ((List.range (n + 1)).map g) = (List.range n).map (dN g) := by
  apply List.ext_getElem?
  intro i
  unfold stepL
  rw [List.getElem?_zipWith, List.getElem?_map, List.getElem?_map, List.getElem?_tail, List.getElem?_map]
  by_cases h : i < n
  · rw [List.getElem?_range h, List.getElem?_range (by omega), List.getElem?_range (by omega)]
    rfl
  · rw [List.getElem?_eq_none (l := List.range n) (by simp; omega), List.getElem?_eq_none (l := List.range (n + 1)) (i := i + 1) (by simp; omega)]
    cases (List.range (n + 1))[i]? <;> rfl
theorem diffsF_range : ∀ (n : Nat) (g : Nat → Int), diffsF n ((List.range n).map g) = (List.range n).map fun k => itN k g 0
  | 0, g => rfl
  | n + 1, g => by
    have e : (List.range (n + 1)).map g = g 0 :: ((List.range n).map fun k => g (k + 1)) := by
      rw [List.range_succ_eq_map, List.map_cons, List.map_map]; rfl
    have s : stepL (g 0 :: ((List.range n).map fun k => g (k + 1))) = (List.range n).map (dN g) := by rw [← e, stepL_range]
    rw [e, diffsF, s, diffsF_range n (dN g)]
    rw [List.range_succ_eq_map, List.map_cons, List.map_map]
    rfl
theorem diffs_range (n : Nat) (g : Nat → Int) : diffs ((List.range n).map g) = (List.range n).map fun k => itN k g 0 := by
  unfold diffs
  rw [List.length_map, List.length_range, diffsF_range]
theorem itX_succ' (f : F2I) : ∀ n, itX (n + 1) f = itX n (dX f)
  | 0 => rfl
  | n + 1 => by rw [itX, itX_succ' f n]; rfl
theorem itN_itX (y : Int) : ∀ (n : Nat) (f : F2I) (k : Nat), itN n (fun k => f (k : Nat) y) k = itX n f (k : Nat) y
  | 0, f, k => rfl
  | n + 1, f, k => by
    rw [itX_succ', ← itN_itX y n (dX f) k]
    have e : (dN fun k => f (k : Nat) y) = fun k => dX f (k : Nat) y := by
      funext j
      show f ((j + 1 : Nat) : Int) y - f (j : Nat) y = f ((j : Int) + 1) y - f (j : Nat) y
      rw [show ((j + 1 : Nat) : Int) = (j : Int) + 1 by omega]
    show itN n (dN fun k => f (k : Nat) y) k = _
    rw [e]
theorem itN_itY (x : Int) : ∀ (n : Nat) (f : F2I) (k : Nat), itN n (fun k => f x (k : Nat)) k = itY n f x (k : Nat)
  | 0, f, k => rfl
  | n + 1, f, k => by
    rw [itN_succ, itN_itY x n f, itN_itY x n f]
    show itY n f x ((k + 1 : Nat) : Int) - itY n f x (k : Nat) = itY n f x ((k : Int) + 1) - itY n f x (k : Nat)
    rw [show ((k + 1 : Nat) : Int) = (k : Int) + 1 by omega]
def sqRow (f : F2I) (i : Nat) : PD := .list ((List.range 17).map fun j => .int (dd i j f))
def S_square (d : Nat) : FSpec := ⟨fun args Q => ∃ (f : FT) (m : Nat), args = [.d f.pd] ∧ f.lev ≤ d ∧ f.ok m ∧ 10 ≤ m ∧ Q (.d (.list ((List.range 17).map (sqRow fun u v => f.val u v)))) []⟩
theorem rng17 {lo : Int} {i : Nat} {x : PD} (h : (rngD 0 ((17 : Int) - 0).toNat)[i]? = some x) : x = .int (i : Nat) ∧ i < 17 := by
  obtain ⟨rfl, h2⟩ := rngD_get h
  exact ⟨by rw [Int.zero_add], h2⟩
theorem mapR_succ {α : Type} (g : Nat → α) (i : Nat) : (List.range i).map g ++ [g i] = (List.range (i + 1)).map g := by
  rw [List.range_succ, List.map_append]; rfl
theorem ints_of (g : Nat → Int) (n : Nat) : (List.range n).map (fun i => PyData.int (g i)) = ((List.range n).map g).map .int := by rw [List.map_map]; rfl
theorem atR {α : Type} (g : Nat → α) {n i : Nat} (h : i < n) : atI ((List.range n).map g) (i : Nat) = some (g i) :=
  atI_nat (by rw [List.getElem?_map, List.getElem?_range h]; rfl)
abbrev N_square : List Str := ["formula", "size", "by_y", "columns", "x", "y", "j", "i"]
def ir_square (S_differences : FSpec) (S_worth : FSpec) : TSt :=
  (sSeq (sAsg 1 (fD (dBin bAdd (.e (dC (.int 16))) (.e (dC (.int 1))))))
    (sSeq (sAsg 2 (fLc (iRg (aCons (.s 1) aNil)) [4] (.nm 4) cYes (dFz (fCall S_differences (aCons (.e (dFz (fLc (iRg (aCons (.s 1) aNil)) [5] (.nm 5) cYes (dFz (fCall S_worth (aCons (.e (dVar 0)) (aCons (.e (dVar 4)) (aCons (.e (dVar 5)) aNil)))))))) aNil)))))
    (sSeq (sAsg 3 (fLc (iRg (aCons (.s 1) aNil)) [6] (.nm 6) cYes (dFz (fCall S_differences (aCons (.e (dFz (fLc (iRg (aCons (.s 1) aNil)) [4] (.nm 4) cYes (dBin bIx (.e (dBin bIx (.s 2) (.s 4))) (.s 6))))) aNil)))))
    (sRet (fLc (iRg (aCons (.s 1) aNil)) [7] (.nm 7) cYes (dFz (fLc (iRg (aCons (.s 1) aNil)) [6] (.nm 6) cYes (dBin bIx (.e (dBin bIx (.s 3) (.s 6))) (.s 7)))))))))
theorem sp_square (d : Nat) : ∀ args Q, (S_square d).sp args Q → ir_square S_differences (S_worth d) (endsOf args Q) (rho0 N_square args) := by
  rintro args Q ⟨f, m, rfl, hl, ok, hm, q⟩
  have sm : ∀ i : Nat, i < 17 → ((i : Nat) : Int).natAbs < 2 ^ m := fun i hi => Nat.lt_of_lt_of_le (show _ < 2 ^ 10 by omega) (Nat.pow_le_pow_right (by decide) hm)
  have difY : ∀ i : Nat, diffs ((List.range 17).map fun y => f.val (i : Nat) (y : Nat)) = (List.range 17).map fun j => itY j (fun u v => f.val u v) (i : Nat) 0 := fun i => by
    rw [diffs_range]
    apply List.map_congr_left
    intro j _
    exact itN_itY (i : Nat) j (fun u v => f.val u v) 0
  have difX : ∀ j : Nat, diffs ((List.range 17).map fun x => itY j (fun u v => f.val u v) (x : Nat) 0) = (List.range 17).map fun i => dd i j (fun u v => f.val u v) := fun j => by
    rw [diffs_range]
    apply List.map_congr_left
    intro i _
    exact itN_itX 0 i (itY j fun u v => f.val u v) 0
  have szl : ∀ n : Nat, n < 17 → n < sizeLine := fun n h => by rw [sizeLine_eq]; omega
  refine ⟨by decide, ⟨rfl, rfl⟩, fun i acc ρ => acc = (List.range i).map (fun x => PyData.list ((List.range 17).map fun j => .int (itY j (fun u v => f.val u v) (x : Nat) 0))) ∧ ρ = [some (.d f.pd), some (.d (.int 17)), none, none, none, none, none, none], ⟨rfl, rfl⟩, fun _ _ _ _ => trivial, ?_, ?_⟩
  · rintro i x acc ρ hx ⟨rfl, rfl⟩
    obtain ⟨rfl, hi⟩ := rng17 (lo := 0) hx
    refine ⟨fun _ => ?_, nofun⟩
    refine ⟨by decide, ⟨rfl, rfl⟩, fun j acc ρ => acc = (List.range j).map (fun y => PyData.int (f.val (i : Nat) (y : Nat))) ∧ ρ = [some (.d f.pd), some (.d (.int 17)), none, none, some (.d (.int (i : Nat))), none, none, none], ⟨rfl, rfl⟩, fun _ _ _ _ => trivial, ?_, ?_⟩
    · rintro j y acc ρ hy ⟨rfl, rfl⟩
      obtain ⟨rfl, hj⟩ := rng17 (lo := 0) hy
      refine ⟨fun _ => ⟨rfl, f, _, _, m, rfl, hl, ok, sm i hi, sm j hj, ?_, ?_, rfl⟩, nofun⟩
      · rw [List.length_map, List.length_range]; exact szl j hj
      · exact mapR_succ (fun y => PyData.int (f.val (i : Nat) (y : Nat))) j
    · rintro acc ρ ⟨rfl, rfl⟩
      have el : (Wk.items (rngD 0 ((17 : Int)).toNat)).list.length = 17 := rngD_len
      rw [el]
      refine ⟨rfl, (List.range 17).map fun y => f.val (i : Nat) (y : Nat), by rw [← ints_of]; rfl, by simp, ?_⟩
      refine ⟨?_, ?_, rfl⟩
      · rw [List.length_map, List.length_range]; exact szl i hi
      · show _ ++ [PyData.list ((diffs _).map PyData.int)] = _
        rw [difY, List.map_map]
        exact mapR_succ (fun x : Nat => PyData.list ((List.range 17).map fun j => .int (itY j (fun u v => f.val u v) (x : Nat) 0))) i
  · rintro acc ρ ⟨rfl, rfl⟩
    have el : (Wk.items (rngD 0 ((16 : Int) + 1).toNat)).list.length = 17 := rngD_len
    rw [el]
    obtain ⟨byY, hY⟩ : ∃ l, l = (List.range 17).map (fun x => PyData.list ((List.range 17).map fun j => .int (itY j (fun u v => f.val u v) (x : Nat) 0))) := ⟨_, rfl⟩
    refine ⟨by decide, ⟨rfl, rfl⟩, fun i acc ρ => acc = (List.range i).map (fun j => PyData.list ((List.range 17).map fun i => .int (dd i j (fun u v => f.val u v)))) ∧ ρ = [some (.d f.pd), some (.d (.int 17)), some (.ls none byY), none, none, none, none, none], ⟨rfl, by rw [hY]; rfl⟩, fun _ _ _ _ => trivial, ?_, ?_⟩
    · rintro j x acc ρ hx ⟨rfl, rfl⟩
      obtain ⟨rfl, hj⟩ := rng17 (lo := 0) hx
      refine ⟨fun _ => ?_, nofun⟩
      refine ⟨by decide, ⟨rfl, rfl⟩, fun i acc ρ => acc = (List.range i).map (fun x => PyData.int (itY j (fun u v => f.val u v) (x : Nat) 0)) ∧ ρ = [some (.d f.pd), some (.d (.int 17)), some (.ls none byY), none, none, none, some (.d (.int (j : Nat))), none], ⟨rfl, rfl⟩, fun _ _ _ _ => trivial, ?_, ?_⟩
      · rintro i y acc ρ hy ⟨rfl, rfl⟩
        obtain ⟨rfl, hi⟩ := rng17 (lo := 0) hy
        refine ⟨fun _ => ⟨.list ((List.range 17).map fun j => .int (itY j (fun u v => f.val u v) (i : Nat) 0)), by rw [hY]; exact atR _ hi, _, atR _ hj, ?_, ?_, rfl⟩, nofun⟩
        · rw [List.length_map, List.length_range]; exact szl i hi
        · exact mapR_succ (fun x => PyData.int (itY j (fun u v => f.val u v) (x : Nat) 0)) i
      · rintro acc ρ ⟨rfl, rfl⟩
        have el : (Wk.items (rngD 0 ((17 : Int)).toNat)).list.length = 17 := rngD_len
        rw [el]
        refine ⟨rfl, (List.range 17).map fun x => itY j (fun u v => f.val u v) (x : Nat) 0, by rw [← ints_of]; rfl, by simp, ?_⟩
        refine ⟨?_, ?_, rfl⟩
        · rw [List.length_map, List.length_range]; exact szl j hj
        · show _ ++ [PyData.list ((diffs _).map PyData.int)] = _
          rw [difX, List.map_map]
          exact mapR_succ (fun j : Nat => PyData.list ((List.range 17).map fun i => .int (dd i j (fun u v => f.val u v)))) j
    · rintro acc ρ ⟨rfl, rfl⟩
      have el : (Wk.items (rngD 0 ((17 : Int)).toNat)).list.length = 17 := rngD_len
      rw [el]
      obtain ⟨cl, hC⟩ : ∃ l, l = (List.range 17).map (fun j => PyData.list ((List.range 17).map fun i => .int (dd i j (fun u v => f.val u v)))) := ⟨_, rfl⟩
      refine ⟨by decide, ⟨rfl, rfl⟩, fun i acc ρ => acc = (List.range i).map (sqRow fun u v => f.val u v) ∧ ρ = [some (.d f.pd), some (.d (.int 17)), some (.ls none byY), some (.ls none cl), none, none, none, none], ⟨rfl, by rw [hC]; rfl⟩, fun _ _ _ _ => trivial, ?_, ?_⟩
      · rintro i x acc ρ hx ⟨rfl, rfl⟩
        obtain ⟨rfl, hi⟩ := rng17 (lo := 0) hx
        refine ⟨fun _ => ?_, nofun⟩
        refine ⟨by decide, ⟨rfl, rfl⟩, fun j acc ρ => acc = (List.range j).map (fun j => PyData.int (dd i j (fun u v => f.val u v))) ∧ ρ = [some (.d f.pd), some (.d (.int 17)), some (.ls none byY), some (.ls none cl), none, none, none, some (.d (.int (i : Nat)))], ⟨rfl, rfl⟩, fun _ _ _ _ => trivial, ?_, ?_⟩
        · rintro j y acc ρ hy ⟨rfl, rfl⟩
          obtain ⟨rfl, hj⟩ := rng17 (lo := 0) hy
          refine ⟨fun _ => ⟨.list ((List.range 17).map fun i => .int (dd i j (fun u v => f.val u v))), by rw [hC]; exact atR _ hj, _, atR _ hi, ?_, ?_, rfl⟩, nofun⟩
          · rw [List.length_map, List.length_range]; exact szl j hj
          · exact mapR_succ (fun j => PyData.int (dd i j (fun u v => f.val u v))) j
        · rintro acc ρ ⟨rfl, rfl⟩
          have el : (Wk.items (rngD 0 ((17 : Int)).toNat)).list.length = 17 := rngD_len
          rw [el]
          refine ⟨?_, ?_, rfl⟩
          · rw [List.length_map, List.length_range]; exact szl i hi
          · exact mapR_succ (sqRow fun u v => f.val u v) i
      · rintro acc ρ ⟨rfl, rfl⟩
        have el : (Wk.items (rngD 0 ((17 : Int)).toNat)).list.length = 17 := rngD_len
        rw [el]
        exact .inr ⟨rfl, q⟩
end DL
namespace DL
open PySem L2 PyProof.Rows
theorem enumD_len (xs : List PD) : (enumD xs).length = xs.length := by unfold enumD; simp
theorem enumD_inv {xs : List PD} {i : Nat} {x : PD} (h : (enumD xs)[i]? = some x) : ∃ d, xs[i]? = some d ∧ x = .tuple [.int (i : Nat), d] := by
  have hi : i < xs.length := by rw [← enumD_len]; exact (List.getElem?_eq_some_iff.mp h).1
  have e := enumD_get (List.getElem?_eq_getElem hi)
  rw [h] at e
  exact ⟨_, List.getElem?_eq_getElem hi, by simpa using e⟩
abbrev T3 := Nat × Nat × Int
def rI (f : F2I) (i n : Nat) : List T3 := (List.range n).flatMap fun j => if dd i j f = 0 then [] else [(i, j, cof f i j)]
def rD (f : F2I) (n : Nat) : List T3 := (List.range n).flatMap fun i => rI f i 17
def rowP (t : T3) : PD := .tuple [.int (t.1 : Nat), .int (t.2.1 : Nat), .int t.2.2]
theorem rI_succ (f : F2I) (i n : Nat) : rI f i (n + 1) = rI f i n ++ (if dd i n f = 0 then [] else [(i, n, cof f i n)]) := by
  unfold rI; rw [List.range_succ, List.flatMap_append]; simp
theorem rD_succ (f : F2I) (n : Nat) : rD f (n + 1) = rD f n ++ rI f n 17 := by
  unfold rD; rw [List.range_succ, List.flatMap_append]; simp
theorem rI_len (f : F2I) (i : Nat) : ∀ n, (rI f i n).length ≤ n
  | 0 => Nat.le_refl _
  | n + 1 => by
    rw [rI_succ, List.length_append]
    have := rI_len f i n
    split <;> simp <;> omega
theorem rD_len (f : F2I) : ∀ n, (rD f n).length ≤ 17 * n
  | 0 => Nat.le_refl _
  | n + 1 => by
    rw [rD_succ, List.length_append]
    have := rD_len f n
    have := rI_len f n 17
    omega
def S_rows (d : Nat) : FSpec := ⟨fun args Q => ∃ (f : FT) (m : Nat), args = [.d f.pd] ∧ f.lev ≤ d ∧ f.ok m ∧ 10 ≤ m ∧ Q (.d (.tuple ((rD (fun u v => f.val u v) 17).map rowP))) []⟩
theorem fac_log {i : Nat} (h : i ≤ 20) : (fallI (i : Nat) i).natAbs < 2 ^ 221 := Nat.lt_of_lt_of_le (fact_small (by omega)) (Nat.pow_le_pow_right (by decide) (by omega))
theorem fac2_nn {i j : Nat} (h : i ≤ 20) (h2 : j ≤ 20) : (fallI (i : Nat) i * fallI (j : Nat) j).natAbs < 2 ^ 442 := two_mul (fac_log h) (fac_log h2) (by decide)
abbrev N_rows_of : List Str := ["formula", "found", "i", "line", "j", "difference"]
def ir_rows_of (S_square : FSpec) (S_factorial : FSpec) : TSt :=
  (sSeq (sAsg 1 (fLst aNil))
    (sSeq (sFor (iEnm (dFz (fCall S_square (aCons (.e (dVar 0)) aNil)))) (.tp [2, 3]) (sFor (iEnm (dVar 3)) (.tp [4, 5]) (sIf (tVal (dBin cNe (.s 5) (.e (dC (.int 0))))) (sApp 1 (dTup (aCons (.e (dVar 2)) (aCons (.e (dVar 4)) (aCons (.e (dBin bFdiv (.s 5) (.e (dBin bMulI (.e (dFz (fCall S_factorial (aCons (.e (dVar 2)) aNil)))) (.e (dFz (fCall S_factorial (aCons (.e (dVar 4)) aNil)))))))) aNil))))) sNext)))
    (sRet (fD (dBi bTuple (aCons (.s 1) aNil))))))
theorem sp_rows_of (d : Nat) : ∀ args Q, (S_rows d).sp args Q → ir_rows_of (S_square d) S_factorial (endsOf args Q) (rho0 N_rows_of args) := by
  rintro args Q ⟨f, m, rfl, hl, ok, hm, q⟩
  obtain ⟨F, hF⟩ : ∃ F : F2I, F = fun u v => f.val u v := ⟨_, rfl⟩
  refine ⟨rfl, f, m, rfl, hl, ok, hm, _, rfl, fun i ρ => ∃ s2 s3 s4 s5, ρ = [some (.d f.pd), some (.ls none ((rD F i).map rowP)), s2, s3, s4, s5], ⟨none, none, none, none, rfl⟩, ?_, ?_⟩
  · rintro i x ρ hx ⟨s2, s3, s4, s5, rfl⟩
    rw [← hF] at hx
    obtain ⟨z, hz, rfl⟩ := enumD_inv hx
    rw [List.getElem?_map] at hz
    obtain ⟨i', hi', rfl⟩ := Option.map_eq_some_iff.mp hz
    have hi : i < 17 := by have := (List.getElem?_eq_some_iff.mp hi').1; simpa using this
    rw [List.getElem?_range hi] at hi'
    cases hi'
    refine ⟨rfl, _, rfl, fun j ρ => ∃ s4 s5, ρ = [some (.d f.pd), some (.ls none ((rD F i ++ rI F i j).map rowP)), some (.d (.int (i : Nat))), some (.d (sqRow F i)), s4, s5], ⟨s4, s5, ?_⟩, ?_, ?_⟩
    · have : rI F i 0 = [] := rfl
      rw [this, List.append_nil]
      rfl
    · rintro j y ρ hy ⟨s4, s5, rfl⟩
      have hy : (enumD ((List.range 17).map fun j => PyData.int (dd i j F)))[j]? = some y := hy
      obtain ⟨w, hw, rfl⟩ := enumD_inv hy
      rw [List.getElem?_map] at hw
      obtain ⟨j', hj', rfl⟩ := Option.map_eq_some_iff.mp hw
      have hj : j < 17 := by have := (List.getElem?_eq_some_iff.mp hj').1; simpa using this
      rw [List.getElem?_range hj] at hj'
      cases hj'
      refine ⟨rfl, fun h => ?_, fun h => ?_⟩
      · have h : (!decide (dd i j F = 0)) = true := h
        have h0 : ¬ dd i j F = 0 := by simpa using h
        refine ⟨rfl, i, rfl, by omega, rfl, j, rfl, by omega, mulOk 221 221 (fac_log (by omega)) (fac_log (by omega)), ⟨fac2_pos i j, Nat.lt_trans (log2_lt (fac2_nn (by omega) (by omega)) (by decide)) (by decide)⟩, ?_, ?_⟩
        · have a := rD_len F i
          have b := rI_len F i j
          rw [List.length_map, List.length_append, sizeLine_eq]; omega
        · refine ⟨some (.d (.int (j : Nat))), some (.d (.int (dd i j F))), ?_⟩
          rw [rI_succ, if_neg h0, ← List.append_assoc, List.map_append (l₂ := [(i, j, cof F i j)])]
          rfl
      · have h : (!decide (dd i j F = 0)) = false := h
        have h0 : dd i j F = 0 := by simpa using h
        refine ⟨some (.d (.int (j : Nat))), some (.d (.int (dd i j F))), ?_⟩
        rw [rI_succ, if_pos h0, List.append_nil]
        rfl
    · rintro ρ ⟨s4, s5, rfl⟩
      have el : (enumD ((List.range 17).map fun j => PyData.int (dd i j F))).length = 17 := by rw [enumD_len]; simp
      refine ⟨some (.d (.int (i : Nat))), some (.d (sqRow F i)), s4, s5, ?_⟩
      rw [el, rD_succ]
  · rintro ρ ⟨s2, s3, s4, s5, rfl⟩
    have el : (enumD ((List.range 17).map (sqRow F))).length = 17 := by rw [enumD_len]; simp
    rw [← hF, el]
    rw [← hF] at q
    exact q
end DL
namespace DL
open PySem L2 PyProof.Rows
theorem bndX {g : F2I} {y : Int} {B N : Nat} (h : ∀ x : Nat, x ≤ N → (g (x : Nat) y).natAbs < 2 ^ B) : ∀ (n x : Nat), x + n ≤ N → (itX n g (x : Nat) y).natAbs < 2 ^ (B + n)
  | 0, x, hx => h x hx
  | n + 1, x, hx => by
    have a := bndX h n (x + 1) (by omega)
    have b := bndX h n x (by omega)
    rw [show ((x + 1 : Nat) : Int) = (x : Int) + 1 by omega] at a
    exact (two_add a b (by omega) (by omega)).2
theorem bndY {g : F2I} {x : Int} {B N : Nat} (h : ∀ y : Nat, y ≤ N → (g x (y : Nat)).natAbs < 2 ^ B) : ∀ (n y : Nat), y + n ≤ N → (itY n g x (y : Nat)).natAbs < 2 ^ (B + n)
  | 0, y, hy => h y hy
  | n + 1, y, hy => by
    have a := bndY h n (y + 1) (by omega)
    have b := bndY h n y (by omega)
    rw [show ((y + 1 : Nat) : Int) = (y : Int) + 1 by omega] at a
    exact (two_add a b (by omega) (by omega)).2
theorem dd_small {g : F2I} {B : Nat} (h : ∀ x y : Nat, x ≤ 16 → y ≤ 16 → (g (x : Nat) (y : Nat)).natAbs < 2 ^ B) {i j : Nat} (hi : i ≤ 16) (hj : j ≤ 16) : (dd i j g).natAbs < 2 ^ (B + 32) := by
  have a : ∀ x : Nat, x ≤ 16 → (itY j g (x : Nat) ((0 : Nat) : Int)).natAbs < 2 ^ (B + j) := fun x hx => bndY (fun y hy => h x y hx hy) j 0 (by omega)
  have b := bndX (g := itY j g) (y := ((0 : Nat) : Int)) a i 0 (by omega)
  exact Nat.lt_of_lt_of_le b (Nat.pow_le_pow_right (by decide) (by omega))
theorem cof_mul {d : Nat} {f : F2I} (h : Pol d f) (i j : Nat) : cof f i j * fac2 i j = dd i j f := Int.ediv_mul_cancel (h.dvd i j)
theorem cof_small {d B : Nat} {f : F2I} (h : Pol d f) {i j : Nat} (hb : (dd i j f).natAbs < 2 ^ B) : (cof f i j).natAbs < 2 ^ B := by
  rw [← cof_mul h, Int.natAbs_mul] at hb
  have := fac2_pos i j
  exact Nat.lt_of_le_of_lt (Nat.le_mul_of_pos_right _ (by omega)) hb
theorem FT.dd_small {f : FT} {m : Nat} (ok : f.ok m) (hm : 10 ≤ m) {i j : Nat} (hi : i ≤ 16) (hj : j ≤ 16) : (dd i j fun u v => f.val u v).natAbs < 2 ^ 100032 := by
  have sm : ∀ x : Nat, x ≤ 16 → ((x : Nat) : Int).natAbs < 2 ^ m := fun x hx => Nat.lt_of_lt_of_le (show _ < 2 ^ 10 by omega) (Nat.pow_le_pow_right (by decide) hm)
  have z := DL.dd_small (g := fun u v => f.val u v) (B := (f.lev + m) * f.e) (fun x y hx hy => FT.small (sm x hx) (sm y hy) ok.1) hi hj
  exact Nat.lt_of_lt_of_le z (Nat.pow_le_pow_right (by decide) (by have := ok.2; omega))
theorem rI_mem {f : F2I} {i n : Nat} {t : T3} (h : t ∈ rI f i n) : t.1 = i ∧ t.2.1 < n ∧ t.2.2 = cof f i t.2.1 ∧ dd i t.2.1 f ≠ 0 := by
  unfold rI at h
  obtain ⟨j, hj, ht⟩ := List.mem_flatMap.mp h
  split at ht
  · cases ht
  · rename_i h0
    simp only [List.mem_cons, List.not_mem_nil, or_false] at ht
    subst ht
    exact ⟨rfl, List.mem_range.mp hj, rfl, h0⟩
theorem rD_mem {f : F2I} {n : Nat} {t : T3} (h : t ∈ rD f n) : t.1 < n ∧ t.2.1 < 17 ∧ t.2.2 = cof f t.1 t.2.1 ∧ dd t.1 t.2.1 f ≠ 0 := by
  unfold rD at h
  obtain ⟨i, hi, ht⟩ := List.mem_flatMap.mp h
  obtain ⟨rfl, b, c, d⟩ := rI_mem ht
  exact ⟨List.mem_range.mp hi, b, c, d⟩
theorem rI_sum (f : F2I) (s : Nat → Nat → Int) (i : Nat) : ∀ n, ((rI f i n).map fun t => t.2.2 * s t.1 t.2.1).sum = sumN n fun j => cof f i j * s i j
  | 0 => rfl
  | n + 1 => by
    rw [rI_succ, List.map_append, List.sum_append, rI_sum f s i n, sumN]
    congr 1
    split
    · rename_i h
      have : cof f i n = 0 := by unfold cof; rw [h, Int.zero_ediv]
      rw [this, Int.zero_mul]; rfl
    · simp
theorem rD_sum (f : F2I) (s : Nat → Nat → Int) : ∀ n, ((rD f n).map fun t => t.2.2 * s t.1 t.2.1).sum = sumN n fun i => sumN 17 fun j => cof f i j * s i j
  | 0 => rfl
  | n + 1 => by
    rw [rD_succ, List.map_append, List.sum_append, rD_sum f s n, rI_sum]
    rfl
theorem cof0 {f : F2I} {i j : Nat} (h : dd i j f = 0) : cof f i j = 0 := by unfold cof; rw [h, Int.zero_ediv]
end DL
namespace DL
open PySem L2 PyProof.Rows
def stp (c i j : Nat) : Nat := c / Nat.gcd c (fac2 i j).toNat
theorem stp_pos {c i j : Nat} (h : 0 < c) : 0 < stp c i j := Nat.div_pos (Nat.le_of_dvd h (Nat.gcd_dvd_left _ _)) (Nat.gcd_pos_of_pos_left _ h)
theorem stp_le (c i j : Nat) : stp c i j ≤ c := Nat.div_le_self _ _
abbrev N_common : List Str := ["one", "other"]
def ir_common : TSt :=
  (sSeq (sWhile (tVal (dBin cGt (.s 1) (.e (dC (.int 0))))) (sPar 0 1 (fD (dVar 1)) (fD (dBin bMod (.s 0) (.s 1)))))
    (sRetV 0))
theorem sp_common : ∀ args Q, S_common.sp args Q → ir_common (endsOf args Q) (rho0 N_common args) := by
  rintro args Q ⟨a, b, rfl, q⟩
  refine ⟨fun ρ => ∃ x y : Nat, ρ = [some (.d (.int x)), some (.d (.int y))] ∧ Nat.gcd x y = Nat.gcd a b, natAt 1, ⟨a, b, rfl, rfl⟩, ?_⟩
  rintro ρ ⟨x, y, rfl, hg⟩
  refine ⟨fun h => ?_, fun h => ?_⟩
  · have hy : (0 : Int) < (y : Int) := of_decide_eq_true h
    refine ⟨hy, ⟨y, x % y, by rw [Int.natCast_emod]; rfl, ?_⟩, ?_⟩
    · rw [gcd_turn (by omega)]; exact hg
    · show ((x : Int) % (y : Int)).toNat < ((y : Nat) : Int).toNat
      have h1 := Int.emod_lt_of_pos (x : Int) hy
      have h2 := Int.emod_nonneg (x : Int) (b := (y : Int)) (by omega)
      omega
  · have hy : ¬ (0 : Int) < (y : Int) := of_decide_eq_false h
    have : y = 0 := by omega
    subst this
    rw [Nat.gcd_zero_right] at hg
    subst hg
    exact q
def S_step : FSpec := ⟨fun args Q => ∃ c i j : Nat, args = [.d (.int c), .d (.int i), .d (.int j)] ∧ 0 < c ∧ c < 2 ^ 110 ∧ i ≤ 100 ∧ j ≤ 100 ∧ Q (.d (.int ((stp c i j : Nat) : Int))) []⟩
theorem fac_l {i : Nat} (h : i ≤ 100) : (fallI (i : Nat) i).natAbs < 2 ^ 1101 := Nat.lt_of_lt_of_le (fact_small (by omega)) (Nat.pow_le_pow_right (by decide) (by omega))
abbrev N_step_of : List Str := ["clock", "i", "j"]
def ir_step_of (S_common : FSpec) (S_factorial : FSpec) : TSt :=
  (sRet (fD (dBin bFdiv (.s 0) (.e (dFz (fCall S_common (aCons (.e (dVar 0)) (aCons (.e (dBin bMulI (.e (dFz (fCall S_factorial (aCons (.e (dVar 1)) aNil)))) (.e (dFz (fCall S_factorial (aCons (.e (dVar 2)) aNil)))))) aNil))))))))
theorem sp_step_of : ∀ args Q, S_step.sp args Q → ir_step_of S_common S_factorial (endsOf args Q) (rho0 N_step_of args) := by
  rintro args Q ⟨c, i, j, rfl, c0, hc, hi, hj, q⟩
  have e : fallI (i : Nat) i * fallI (j : Nat) j = (((fac2 i j).toNat : Nat) : Int) := (Int.toNat_of_nonneg (Int.le_of_lt (fac2_pos i j))).symm
  refine ⟨rfl, i, rfl, by omega, rfl, j, rfl, by omega, mulOk 1101 1101 (fac_l hi) (fac_l hj), rfl, c, (fac2 i j).toNat, by rw [← e], ?_⟩
  have gp : 0 < Nat.gcd c (fac2 i j).toNat := Nat.gcd_pos_of_pos_left _ c0
  have gl : Nat.gcd c (fac2 i j).toNat ≤ c := Nat.le_of_dvd c0 (Nat.gcd_dvd_left _ _)
  refine ⟨⟨by omega, Nat.lt_trans (log2_const (i := ((Nat.gcd c (fac2 i j).toNat : Nat) : Int)) (k := 110) (by rw [Int.natAbs_natCast]; omega)) (by decide)⟩, ?_⟩
  have z : ((c : Nat) : Int) / ((Nat.gcd c (fac2 i j).toNat : Nat) : Int) = ((stp c i j : Nat) : Int) := (Int.natCast_ediv _ _).symm
  rw [← z] at q
  exact q
theorem FT.dd_bnd {f : FT} {m : Nat} (ok : f.ok m) (hm : 10 ≤ m) {i j : Nat} (hi : i ≤ 16) (hj : j ≤ 16) : (dd i j fun u v => f.val u v).natAbs < 2 ^ ((f.lev + m) * f.e + 32) := by
  have sm : ∀ x : Nat, x ≤ 16 → ((x : Nat) : Int).natAbs < 2 ^ m := fun x hx => Nat.lt_of_lt_of_le (show _ < 2 ^ 10 by omega) (Nat.pow_le_pow_right (by decide) hm)
  exact DL.dd_small (g := fun u v => f.val u v) (B := (f.lev + m) * f.e) (fun x y hx hy => FT.small (sm x hx) (sm y hy) ok.1) hi hj
end DL
namespace DL
open PySem L2 PyProof.Rows
theorem nb {a b : Str} {p : Prop} (e : a = b) (h : (!decide (a = b)) = true) : p := by simp [e] at h
end DL
namespace DL
open PySem L2 PyProof.Rows
theorem FT.drawn.ok2 {yy : Bool} {room deep : Nat} {f : FT} (h : f.drawn yy 140 room deep) (hr : room ≤ 16) (hd : deep ≤ 6) : f.ok2 := by
  obtain ⟨a, b, c, _⟩ := h
  have := f.deg_le
  have fz := f.sz_le (m := 140)
  have fw : (140 + 40) * 2 ^ f.lev ≤ (140 + 40) * 2 ^ 6 := Nat.mul_le_mul_left _ (Nat.pow_le_pow_right (by decide) (by omega))
  exact ⟨by omega, by omega, c, by omega, by omega⟩
theorem FT.ok2.ok {f : FT} (h : f.ok2) {m : Nat} (hm : 140 ≤ m) (hb : m ≤ 4000) : f.ok m := by
  have z : f.drawn true 140 20 17 := ⟨h.1, h.2.1, h.2.2.1, fun _ => rfl⟩
  exact z.ok hm (by omega)
theorem FT.ok2.shw {f : FT} (h : f.ok2) : Shw 17 100000 f.pd := (FT.shw (m := 140) (by decide) (by decide) h.2.2.1 (by have := h.2.1; omega)).mono h.1 h.2.2.2.2
def S_two : FSpec := ⟨fun args Q => ∃ (b : Nat) (dk : List PD) (c : Nat), args = [.ls (some 0) dk, .d (.int c)] ∧ Dk (b + 400) dk ∧ 0 < c ∧ c ≤ 2 ^ 100 ∧
  ∀ (f g : FT) dk', f.ok2 → g.ok2 → Dk b dk' → Q (.d (.tuple [f.pd, g.pd])) [.ls (some 0) dk']⟩
abbrev N_law_two_14d8 : List Str := ["deck", "clock", "one"]
def ir_law_two_14d8 (S_law_formula_6b2b : FSpec) (S_law_draw_a51a : FSpec) (S_law_one_90da : FSpec) (S_law_near_025f : FSpec) : TSt :=
  (sSeq (sAsg 2 (fCall S_law_formula_6b2b (aCons (.s 0) (aCons (.e (dFz (fLst (aCons (.e (dC (.str "x"))) (aCons (.e (dC (.str "y"))) aNil))))) (aCons (.e (dC (.int 8))) (aCons (.e (dBin bAdd (.e (dC (.int 1))) (.e (dFz (fCall S_law_draw_a51a (aCons (.s 0) (aCons (.e (dC (.int 4))) aNil))))))) aNil))))))
    (sSeq (sIf (tVal (dBin cEq (.e (dFz (fCall S_law_draw_a51a (aCons (.s 0) (aCons (.e (dC (.int 5))) aNil))))) (.e (dC (.int 0))))) (sRet (fD (dTup (aCons (.e (dVar 2)) (aCons (.e (dFz (fCall S_law_formula_6b2b (aCons (.s 0) (aCons (.e (dFz (fCall S_law_one_90da (aCons (.s 0) (aCons (.e (dFz (fLst (aCons (.e (dFz (fLst (aCons (.e (dC (.str "x"))) aNil)))) (aCons (.e (dFz (fLst (aCons (.e (dC (.str "x"))) (aCons (.e (dC (.str "y"))) aNil))))) aNil))))) aNil))))) (aCons (.e (dC (.int 16))) (aCons (.e (dBin bAdd (.e (dC (.int 1))) (.e (dFz (fCall S_law_draw_a51a (aCons (.s 0) (aCons (.e (dC (.int 4))) aNil))))))) aNil))))))) aNil))))) sNext)
    (sRet (fD (dTup (aCons (.e (dVar 2)) (aCons (.e (dFz (fCall S_law_near_025f (aCons (.s 0) (aCons (.e (dVar 2)) (aCons (.e (dVar 1)) aNil)))))) aNil)))))))
theorem sp_two : ∀ args Q, S_two.sp args Q → ir_law_two_14d8 (S_formula 4) S_draw S_one S_near (endsOf args Q) (rho0 N_law_two_14d8 args) := by
  rintro args Q ⟨b, dk, c, rfl, h, c0, c1, q⟩
  refine ⟨rfl, b + 399, dk, 4, rfl, h, ⟨by decide, by decide⟩, fun r1 dk1 a0 a1 d1 => ?_⟩
  obtain ⟨n1, rfl⟩ : ∃ n : Nat, r1 = n := ⟨r1.toNat, by omega⟩
  have e1 : (1 : Int) + (n1 : Int) = ((1 + n1 : Nat) : Int) := by omega
  refine ⟨rfl, b + 226, dk1, _, true, 8, 1 + n1, by rw [← e1]; rfl, d1.mono (by show b + 226 + 173 ≤ _; omega), lets_xy, by decide, by decide, by omega, by omega, fun f dk2 hf d2 => ?_⟩
  refine ⟨rfl, b + 225, dk2, 5, rfl, d2, ⟨by decide, by decide⟩, fun r2 dk3 b0 b1 d3 => ⟨fun _ => ?_, fun _ => ?_⟩⟩
  · refine ⟨rfl, b + 224, dk3, _, rfl, d3, ⟨Nat.succ_pos _, by show 2 < 2 ^ 60; decide⟩, fun z dk4 hz d4 => ?_⟩
    have hz' : ∃ (ls : List PD) (yy : Bool), z = .list ls ∧ Lets yy ls := by
      simp only [List.mem_cons, List.not_mem_nil, or_false] at hz
      rcases hz with rfl | rfl
      · exact ⟨_, false, rfl, ⟨Nat.succ_pos _, by show 1 < 100; decide, fun l hl => by simp at hl; exact .inl hl⟩⟩
      · exact ⟨_, true, rfl, lets_xy⟩
    obtain ⟨ls, yy, rfl, hls⟩ := hz'
    refine ⟨rfl, b + 223, dk4, 4, rfl, d4, ⟨by decide, by decide⟩, fun r3 dk5 f0 f1 d5 => ?_⟩
    obtain ⟨n2, rfl⟩ : ∃ n : Nat, r3 = n := ⟨r3.toNat, by omega⟩
    have e2 : (1 : Int) + (n2 : Int) = ((1 + n2 : Nat) : Int) := by omega
    refine ⟨rfl, b, dk5, ls, yy, 16, 1 + n2, by rw [← e2]; rfl, d5.mono (by show b + 173 ≤ _; omega), hls, by decide, by decide, by omega, by omega, fun g dk6 hg d6 => ?_⟩
    exact q f g dk6 (hf.ok2 (by decide) (by omega)) (hg.ok2 (by decide) (by omega)) d6
  · refine ⟨rfl, b, dk3, f, c, rfl, d3.mono (by omega), ⟨Nat.le_trans hf.1 (by omega), hf.2.1, hf.2.2.1⟩, c0, c1, fun g dk4 hg d4 => ?_⟩
    exact q f g dk4 (hf.ok2 (by decide) (by omega)) hg d4
def triP : List (Nat × Nat) := (List.range 17).flatMap fun far => (List.range (far + 1)).map fun x => (x, far)
def prD2 (p : Nat × Nat) : PD := .tuple [.int (p.1 : Nat), .int ((p.2 : Nat) - (p.1 : Nat))]
def triTo (n : Nat) : List (Nat × Nat) := (List.range n).flatMap fun far => (List.range (far + 1)).map fun x => (x, far)
theorem triTo_succ (n : Nat) : triTo (n + 1) = triTo n ++ (List.range (n + 1)).map fun x => (x, n) := by
  unfold triTo
  rw [List.range_succ (n := n), List.flatMap_append]
  simp
  rw [List.range_succ, List.map_append]
  rfl
theorem range_split {n i : Nat} (h : i < n) : ∃ r, List.range n = List.range i ++ i :: r := by
  refine ⟨(List.range (n - i - 1)).map (i + 1 + ·), ?_⟩
  have e : n = i + (1 + (n - i - 1)) := by omega
  conv => lhs; rw [e, List.range_add, List.range_add]
  simp [List.map_map, Function.comp_def, Nat.add_assoc]
def bad (f g : FT) (c : Int) (p : Nat × Nat) : Bool := decide ((f.val (p.1 : Nat) ((p.2 : Nat) - (p.1 : Nat)) - g.val (p.1 : Nat) ((p.2 : Nat) - (p.1 : Nat))) % c ≠ 0)
def partD (f g : FT) (c : Int) : PD := match triP.find? (bad f g c) with
  | none => .none
  | some p => prD2 p
def S_parted : FSpec := ⟨fun args Q => ∃ (f g : FT) (c m : Nat), args = [.d f.pd, .d g.pd, .d (.int c)] ∧ (f.lev ≤ 17 ∧ g.lev ≤ 17) ∧ f.ok m ∧ g.ok m ∧ 10 ≤ m ∧ 0 < c ∧ Q (.d (partD f g c)) []⟩
theorem part_some {f g : FT} {c : Int} {i j : Nat} (hi : i < 17) (hj : j < i + 1) (h1 : ∀ p ∈ triTo i, bad f g c p = false) (h2 : ∀ x, x < j → bad f g c (x, i) = false) (h3 : bad f g c (j, i) = true) : partD f g c = prD2 (j, i) := by
  have e : triP.find? (bad f g c) = some (j, i) := by
    rw [List.find?_eq_some_iff_append]
    obtain ⟨r, hr⟩ := range_split hi
    obtain ⟨s, hs⟩ := range_split hj
    refine ⟨h3, triTo i ++ (List.range j).map fun x => (x, i), (s.map fun x => (x, i)) ++ r.flatMap fun far => (List.range (far + 1)).map fun x => (x, far), ?_, ?_⟩
    · unfold triP triTo
      rw [hr, List.flatMap_append, List.flatMap_cons, hs]
      simp
    · intro p hp
      rcases List.mem_append.mp hp with hp | hp
      · rw [h1 p hp]; rfl
      · obtain ⟨x, hx, rfl⟩ := List.mem_map.mp hp
        rw [h2 x (List.mem_range.mp hx)]; rfl
  unfold partD
  rw [e]
theorem part_none {f g : FT} {c : Int} (h : ∀ p ∈ triTo 17, bad f g c p = false) : partD f g c = .none := by
  have e : triP.find? (bad f g c) = none := by
    rw [List.find?_eq_none]
    intro p hp
    rw [h p hp]; exact Bool.false_ne_true
  unfold partD
  rw [e]
end DL
namespace DL
open PySem L2 PyProof.Rows
def ch : Nat → Nat → Int
  | _, 0 => 1
  | 0, _ + 1 => 0
  | x + 1, k + 1 => ch x (k + 1) + ch x k
theorem itN_mod {m : Int} : ∀ (n : Nat) {g h : Nat → Int} {k N : Nat}, (∀ x, x < N → g x % m = h x % m) → k + n < N → itN n g k % m = itN n h k % m
  | 0, g, h, k, N, e, hk => e k (by omega)
  | n + 1, g, h, k, N, e, hk => by
    have a := itN_mod n e (k := k + 1) (by omega)
    have b := itN_mod n e (k := k) (by omega)
    rw [itN_succ, itN_succ, Int.sub_emod, a, b, ← Int.sub_emod]
def hrow (v : Nat → Int) (n : Nat) (x : Int) : Int := sumN n fun i => v i * fallI x i
def fN (k : Nat) : Nat := (fallI (k : Nat) k).toNat
theorem fN_eq (k : Nat) : fallI (k : Nat) k = ((fN k : Nat) : Int) := (Int.toNat_of_nonneg (Int.le_of_lt (fall_self_pos k))).symm
theorem stp_fN (c k : Nat) : stp c k 0 = c / Nat.gcd c (fN k) := by
  unfold stp fac2 fN
  rw [show fallI ((0 : Nat) : Int) 0 = 1 from rfl, Int.mul_one]
theorem stp_of {c k : Nat} (c0 : 0 < c) {z : Int} (h : (c : Int) ∣ z * fallI (k : Nat) k) : ((stp c k 0 : Nat) : Int) ∣ z := by
  rw [stp_fN]
  rw [fN_eq] at h
  obtain ⟨g, hg⟩ : ∃ g, g = Nat.gcd c (fN k) := ⟨_, rfl⟩
  have gp : 0 < g := by rw [hg]; exact Nat.gcd_pos_of_pos_left _ c0
  obtain ⟨a, ha⟩ : g ∣ c := by rw [hg]; exact Nat.gcd_dvd_left _ _
  obtain ⟨b, hb⟩ : g ∣ fN k := by rw [hg]; exact Nat.gcd_dvd_right _ _
  have cop : Nat.Coprime a b := by
    have : g * Nat.gcd a b = g := by rw [← Nat.gcd_mul_left, ← ha, ← hb, ← hg]
    exact Nat.eq_of_mul_eq_mul_left gp (by rw [this, Nat.mul_one])
  rw [← hg, ha, Nat.mul_div_cancel_left _ gp]
  obtain ⟨w, hw⟩ := h
  rw [ha, hb] at hw
  have e : z * (b : Int) = (a : Int) * w := by
    have gI : (g : Int) ≠ 0 := by omega
    refine Int.eq_of_mul_eq_mul_left gI ?_
    rw [Int.natCast_mul, Int.natCast_mul] at hw
    grind
  have d1 : (a : Int) ∣ z * (b : Int) := ⟨w, e⟩
  have d2 : a ∣ z.natAbs * b := by
    have := Int.natAbs_dvd_natAbs.mpr d1
    rw [Int.natAbs_mul, Int.natAbs_natCast, Int.natAbs_natCast] at this
    exact this
  have d3 : a ∣ z.natAbs := cop.dvd_of_dvd_mul_right d2
  exact Int.natAbs_dvd_natAbs.mp (by rw [Int.natAbs_natCast]; exact d3)
theorem row_one {c k : Nat} (c0 : 0 < c) {v w : Int} (hv : 0 ≤ v ∧ v < ((stp c k 0 : Nat) : Int)) (hw : 0 ≤ w ∧ w < ((stp c k 0 : Nat) : Int)) (h : v * fallI (k : Nat) k % (c : Int) = w * fallI (k : Nat) k % (c : Int)) : v = w := by
  rw [Int.emod_eq_emod_iff_emod_sub_eq_zero, ← Int.dvd_iff_emod_eq_zero, ← Int.sub_mul] at h
  obtain ⟨q, hq⟩ := stp_of c0 h
  have sp := stp_pos (i := k) (j := 0) c0
  have : q = 0 := by
    rcases Int.lt_trichotomy q 0 with hq0 | hq0 | hq0
    · have : ((stp c k 0 : Nat) : Int) * q ≤ ((stp c k 0 : Nat) : Int) * (-1) := Int.mul_le_mul_of_nonneg_left (by omega) (by omega)
      omega
    · exact hq0
    · have : ((stp c k 0 : Nat) : Int) * 1 ≤ ((stp c k 0 : Nat) : Int) * q := Int.mul_le_mul_of_nonneg_left (by omega) (by omega)
      omega
  rw [this, Int.mul_zero] at hq
  omega
end DL
namespace DL
open PySem L2 PyProof.Rows
end DL
namespace DL
open PySem L2 PyProof.Rows
def tabI (f : FT) (c : Nat) : List Int := (List.range c).map fun i => f.val (i : Nat) 0 % c
theorem tab_len (f : FT) (c : Nat) : (tabI f c).length = c := by unfold tabI; simp
theorem tab_at {f : FT} {c i : Nat} (h : i < c) : (tabI f c)[i]? = some (f.val (i : Nat) 0 % c) := by
  unfold tabI
  rw [List.getElem?_map, List.getElem?_range h]
  rfl
def onlyAt (k n : Nat) (a : Int) : List Int := (List.range n).map fun j => if j = k then a else 0
theorem only_len (k n : Nat) (a : Int) : (onlyAt k n a).length = n := by unfold onlyAt; simp
theorem only_get {k n j : Nat} {a : Int} (h : j < n) : (onlyAt k n a)[j]? = some (if j = k then a else 0) := by
  unfold onlyAt
  rw [List.getElem?_map, List.getElem?_range h]
  rfl
def Two (f : FT) (cs : List Nat) (r : PD) : Prop := ∃ (k c a b : Nat) (ea eb : Int), cs[k]? = some c ∧ (∀ j c', j < k → cs[j]? = some c' → (tabI f c').Nodup) ∧ Met (tabI f c) a b ∧ Crt cs (onlyAt k cs.length a) ea ∧ Crt cs (onlyAt k cs.length b) eb ∧
  r = .tuple [.int (min ea eb), .int (max ea eb)]
def MeetP (f : FT) (cs : List Nat) (r : PD) : Prop := (r = .none ∧ ∀ c ∈ cs, (tabI f c).Nodup) ∨ Two f cs r
theorem Two.not {f : FT} {cs : List Nat} {r : PD} (h : Two f cs r) : ¬ ∀ c ∈ cs, (tabI f c).Nodup := fun z => by
  obtain ⟨k, c, a, b, ea, eb, hk, _, hm, _⟩ := h
  exact hm.not (z c (List.mem_of_getElem? hk))
theorem MeetP.uniq {f : FT} {cs : List Nat} {r r' : PD} (hc : Cops cs) (h : MeetP f cs r) (h' : MeetP f cs r') : r = r' := by
  rcases h with ⟨rfl, h⟩ | h
  · rcases h' with ⟨rfl, _⟩ | h'
    · rfl
    · exact absurd h h'.not
  · rcases h' with ⟨rfl, h'⟩ | h'
    · exact absurd h' h.not
    · obtain ⟨k, c, a, b, ea, eb, hk, hf, hm, ha, hb, rfl⟩ := h
      obtain ⟨k', c', a', b', ea', eb', hk', hf', hm', ha', hb', rfl⟩ := h'
      have ek : k = k' := by
        rcases Nat.lt_trichotomy k k' with z | z | z
        · exact absurd (hf' k c z hk) hm.not
        · exact z
        · exact absurd (hf k' c' z hk') hm'.not
      subst ek
      rw [hk] at hk'
      cases hk'
      obtain ⟨rfl, rfl⟩ := hm.uniq hm'
      rw [ha.uniq hc (only_len _ _ _) ha', hb.uniq hc (only_len _ _ _) hb']
theorem Two.ok {f : FT} {cs : List Nat} {r : PD} (hc : Cops cs) (h : Two f cs r) : ∃ x y : Int, r = .tuple [.int x, .int y] ∧ 0 ≤ x ∧ x < y ∧ y < (prodC cs : Nat) ∧ (f.val x 0 - f.val y 0) % ((prodC cs : Nat) : Int) = 0 := by
  obtain ⟨k, c, a, b, ea, eb, hk, hf, hm, ha, hb, rfl⟩ := h
  have kl : k < cs.length := (List.getElem?_eq_some_iff.mp hk).1
  have bl : b < c := by have := hm.2.1; rw [tab_len] at this; exact this
  have al : a < c := Nat.lt_trans hm.1 bl
  have same : f.val (a : Nat) 0 % (c : Int) = f.val (b : Nat) 0 % (c : Int) := by
    have := hm.2.2.1
    rw [tab_at al, tab_at bl] at this
    exact Option.some.inj this
  have ne : ea ≠ eb := Crt.ends ha hb hk (by rw [only_get kl, if_pos rfl]) (by rw [only_get kl, if_pos rfl]) (by
    rw [Int.emod_eq_of_lt (by omega) (by omega), Int.emod_eq_of_lt (by omega) (by omega)]
    have := hm.1
    omega)
  have all : ∀ d ∈ cs, f.val ea 0 % (d : Int) = f.val eb 0 % (d : Int) := fun d hd => by
    obtain ⟨j, hj⟩ := List.mem_iff_getElem?.mp hd
    have jl : j < cs.length := (List.getElem?_eq_some_iff.mp hj).1
    have x := ha.2.2 j d _ hj (only_get jl)
    have y := hb.2.2 j d _ hj (only_get jl)
    by_cases e : j = k
    · subst e
      rw [hk] at hj
      cases hj
      rw [if_pos rfl] at x y
      rw [FT.val_cong x rfl f, FT.val_cong y rfl f]
      exact same
    · rw [if_neg e] at x y
      exact FT.val_cong (x.trans y.symm) rfl f
  have dv : ((prodC cs : Nat) : Int) ∣ f.val ea 0 - f.val eb 0 := dvd_prod hc fun d hd => emod_iff.mp (all d hd)
  have dv2 : ((prodC cs : Nat) : Int) ∣ f.val eb 0 - f.val ea 0 := by
    have := Int.dvd_neg.mpr dv
    rw [Int.neg_sub] at this
    exact this
  have z1 := ha.1
  have z2 := ha.2.1
  have z3 := hb.1
  have z4 := hb.2.1
  rcases Int.lt_or_gt_of_ne ne with lt | gt
  · refine ⟨_, _, rfl, ?_⟩
    rw [show min ea eb = ea by omega, show max ea eb = eb by omega]
    exact ⟨z1, lt, z4, Int.emod_eq_zero_of_dvd dv⟩
  · refine ⟨_, _, rfl, ?_⟩
    rw [show min ea eb = eb by omega, show max ea eb = ea by omega]
    exact ⟨z3, gt, z2, Int.emod_eq_zero_of_dvd dv2⟩
end DL
namespace DL
open PySem L2 PyProof.Rows
def Tells (g v : Nat → Int) (c : Nat) : Prop := ∀ k, k < c → (0 ≤ v k ∧ v k < ((stp c k 0 : Nat) : Int)) ∧ v k * fallI (k : Nat) k % (c : Int) = itN k g 0 % (c : Int)
end DL
namespace DL
open PySem L2 PyProof.Rows
abbrev N_law_step_b26f : List Str := ["clock", "i", "j"]
def ir_law_step_b26f (S_law_common_ae84 : FSpec) (S_law_falling_d92b : FSpec) : TSt :=
  (sRet (fD (dBin bFdiv (.s 0) (.e (dFz (fCall S_law_common_ae84 (aCons (.e (dVar 0)) (aCons (.e (dBin bMulI (.e (dFz (fCall S_law_falling_d92b (aCons (.e (dVar 1)) (aCons (.e (dVar 1)) aNil))))) (.e (dFz (fCall S_law_falling_d92b (aCons (.e (dVar 2)) (aCons (.e (dVar 2)) aNil))))))) aNil))))))))
theorem sp_lstep : ∀ args Q, S_step.sp args Q → ir_law_step_b26f S_common S_falling (endsOf args Q) (rho0 N_law_step_b26f args) := by
  rintro args Q ⟨c, i, j, rfl, c0, hc, hi, hj, q⟩
  have e : fallI (i : Nat) i * fallI (j : Nat) j = (((fac2 i j).toNat : Nat) : Int) := (Int.toNat_of_nonneg (Int.le_of_lt (fac2_pos i j))).symm
  refine ⟨rfl, (i : Nat), i, 8, rfl, by omega, by decide, by omega, by omega, rfl, (j : Nat), j, 8, rfl, by omega, by decide, by omega, by omega, mulOk 1101 1101 (fac_l hi) (fac_l hj), rfl, c, (fac2 i j).toNat, by rw [← e], ?_⟩
  have gp : 0 < Nat.gcd c (fac2 i j).toNat := Nat.gcd_pos_of_pos_left _ c0
  have gl : Nat.gcd c (fac2 i j).toNat ≤ c := Nat.le_of_dvd c0 (Nat.gcd_dvd_left _ _)
  refine ⟨⟨by omega, Nat.lt_trans (log2_const (i := ((Nat.gcd c (fac2 i j).toNat : Nat) : Int)) (k := 110) (by rw [Int.natAbs_natCast]; omega)) (by decide)⟩, ?_⟩
  have z : ((c : Nat) : Int) / ((Nat.gcd c (fac2 i j).toNat : Nat) : Int) = ((stp c i j : Nat) : Int) := (Int.natCast_ediv _ _).symm
  rw [← z] at q
  exact q
end DL
namespace DL
open PySem L2 PyProof.Rows
end DL
namespace DL
open PySem L2 PyProof.Rows
def PZ (h : Int → Int) : Prop := ∃ d, Pol d (fun x _ => h x)
theorem PZ.const (a : Int) : PZ fun _ => a := ⟨0, Pol.const a⟩
theorem PZ.id : PZ fun x => x := ⟨1, by
  have e : (fun x _ => x : F2I) = trm 1 1 0 := by funext u v; simp [trm, fallI]
  rw [e]
  exact .trm _ _ _ (by decide)⟩
theorem PZ.add {f g : Int → Int} (hf : PZ f) (hg : PZ g) : PZ fun x => f x + g x := by
  obtain ⟨d, hf⟩ := hf
  obtain ⟨e, hg⟩ := hg
  exact ⟨max d e, Pol.add (hf.mono (Nat.le_max_left _ _)) (hg.mono (Nat.le_max_right _ _))⟩
theorem PZ.mul {f g : Int → Int} (hf : PZ f) (hg : PZ g) : PZ fun x => f x * g x := by
  obtain ⟨d, hf⟩ := hf
  obtain ⟨e, hg⟩ := hg
  exact ⟨d + e, hf.mul hg⟩
theorem PZ.neg {f : Int → Int} (hf : PZ f) : PZ fun x => - f x := by
  have h := hf.mul (PZ.const (-1))
  have e : (fun x => f x * -1) = fun x => - f x := by funext x; omega
  rw [e] at h
  exact h
theorem PZ.sub {f g : Int → Int} (hf : PZ f) (hg : PZ g) : PZ fun x => f x - g x := by
  have h := hf.add hg.neg
  have e : (fun x => f x + - g x) = fun x => f x - g x := by funext x; omega
  rw [e] at h
  exact h
theorem PZ.pow {f : Int → Int} (hf : PZ f) (n : Nat) : PZ fun x => f x ^ n := by
  obtain ⟨d, hf⟩ := hf
  exact ⟨_, hf.pow n⟩
theorem PZ.fall {h : Int → Int} (hh : PZ h) : ∀ n : Nat, PZ fun x => fallI (h x) n
  | 0 => PZ.const 1
  | n + 1 => (PZ.fall hh n).mul (hh.sub (PZ.const _))
end DL
namespace DL
open PySem L2 PyProof.Rows
theorem PZ.row {h : Int → Int} (hh : PZ h) (v : Nat → Int) : ∀ n : Nat, PZ fun x => hrow v n (h x)
  | 0 => PZ.const 0
  | n + 1 => (PZ.row hh v n).add ((PZ.const (v n)).mul (hh.fall n))
def valN : List (Nat × Int) → Nat → Option Int
  | [], _ => none
  | p :: r, k => if p.1 = k then some p.2 else valN r k
def putNk (ks : List (Nat × Int)) (k : Nat) (x : Int) : List (Nat × Int) := if k ∈ ks.map (·.1) then ks.map (fun p => if p.1 = k then (p.1, x) else p) else ks ++ [(k, x)]
theorem keys_putN (ks : List (Nat × Int)) (k : Nat) (x : Int) : (putNk ks k x).map (·.1) = if k ∈ ks.map (·.1) then ks.map (·.1) else ks.map (·.1) ++ [k] := by
  unfold putNk
  split
  · rw [List.map_map]
    refine List.map_congr_left fun p _ => ?_
    show (if p.1 = k then (p.1, x) else p).1 = p.1
    split <;> rfl
  · rw [List.map_append]
    rfl
theorem valN_app (ks : List (Nat × Int)) (k : Nat) (x : Int) (j : Nat) (h : ¬ k ∈ ks.map (·.1)) : valN (ks ++ [(k, x)]) j = if j = k then some x else valN ks j := by
  induction ks with
  | nil =>
    show (if k = j then some x else none) = _
    by_cases e : j = k
    · rw [if_pos e, if_pos e.symm]
    · rw [if_neg e, if_neg fun z => e z.symm]; rfl
  | cons p r ih =>
    rw [List.map_cons, List.mem_cons] at h
    show (if p.1 = j then some p.2 else valN (r ++ [(k, x)]) j) = if j = k then some x else if p.1 = j then some p.2 else valN r j
    rw [ih fun z => h (.inr z)]
    by_cases e : p.1 = j
    · have : j ≠ k := fun z => h (.inl (by rw [e, z]))
      rw [if_pos e, if_neg this, if_pos e]
    · rw [if_neg e, if_neg e]
theorem valN_upd (k : Nat) (x : Int) (j : Nat) : ∀ ks : List (Nat × Int), k ∈ ks.map (·.1) → valN (ks.map fun p => if p.1 = k then (p.1, x) else p) j = if j = k then some x else valN ks j := by
  have off : j ≠ k → ∀ ks : List (Nat × Int), valN (ks.map fun p => if p.1 = k then (p.1, x) else p) j = valN ks j := fun hj ks => by
    induction ks with
    | nil => rfl
    | cons p r ih =>
      rw [List.map_cons]
      by_cases e : p.1 = k
      · rw [if_pos e, valN, valN, ih, if_neg (show ¬ p.1 = j by omega), if_neg (show ¬ p.1 = j by omega)]
      · rw [if_neg e, valN, valN, ih]
  intro ks h
  by_cases hj : j = k
  · subst hj
    rw [if_pos rfl]
    induction ks with
    | nil => cases h
    | cons p r ih =>
      rw [List.map_cons]
      by_cases e : p.1 = j
      · rw [if_pos e, valN, if_pos e]
      · rw [if_neg e, valN, if_neg e]
        rw [List.map_cons, List.mem_cons] at h
        exact ih (h.resolve_left fun z => e z.symm)
  · rw [if_neg hj]; exact off hj ks
theorem valN_put (ks : List (Nat × Int)) (k : Nat) (x : Int) (j : Nat) : valN (putNk ks k x) j = if j = k then some x else valN ks j := by
  unfold putNk
  split
  · rename_i h
    exact valN_upd k x j ks h
  · rename_i h
    exact valN_app ks k x j h
def sumAt (ts : List T3) (k : Nat) : Int := ((ts.filter fun t => decide (t.1 = k)).map (·.2.2)).sum
theorem sumAt_app (a b : List T3) (k : Nat) : sumAt (a ++ b) k = sumAt a k + sumAt b k := by
  unfold sumAt
  rw [List.filter_append, List.map_append, List.sum_append]
def Tog (ts : List T3) (ks : List (Nat × Int)) : Prop := (ks.map (·.1)).Nodup ∧ (∀ k, k ∈ ks.map (·.1) → k ∈ ts.map (·.1)) ∧ (∀ k, k ∈ ts.map (·.1) → k ∈ ks.map (·.1)) ∧ ∀ k, (valN ks k).getD 0 = sumAt ts k
theorem Tog.nil : Tog [] [] := ⟨List.nodup_nil, fun _ h => h, fun _ h => h, fun _ => rfl⟩
theorem Tog.put {ts : List T3} {ks : List (Nat × Int)} (h : Tog ts ks) (t : T3) : Tog (ts ++ [t]) (putNk ks t.1 ((valN ks t.1).getD 0 + t.2.2)) := by
  obtain ⟨h1, h2, h3, h4⟩ := h
  refine ⟨?_, fun k hk => ?_, fun k hk => ?_, fun k => ?_⟩
  · rw [keys_putN]
    split
    · exact h1
    · rename_i z
      rw [List.nodup_append]
      refine ⟨h1, by simp, fun a ha b hb e => ?_⟩
      rw [List.mem_singleton.mp hb] at e
      exact z (e ▸ ha)
  · rw [keys_putN] at hk
    rw [List.map_append, List.mem_append]
    split at hk
    · exact .inl (h2 k hk)
    · rcases List.mem_append.mp hk with z | z
      · exact .inl (h2 k z)
      · exact .inr z
  · rw [keys_putN]
    rw [List.map_append, List.mem_append] at hk
    split
    · rename_i z
      rcases hk with hk | hk
      · exact h3 k hk
      · rw [List.mem_singleton.mp hk]; exact z
    · rw [List.mem_append]
      rcases hk with hk | hk
      · exact .inl (h3 k hk)
      · exact .inr hk
  · rw [valN_put, sumAt_app, ← h4 k]
    have one : sumAt [t] k = if t.1 = k then t.2.2 else 0 := by
      unfold sumAt
      by_cases e : t.1 = k
      · simp [e]
      · simp [e]
    rw [one]
    by_cases e : k = t.1
    · rw [if_pos e, if_pos e.symm, e]; rfl
    · rw [if_neg e, if_neg fun z => e z.symm]; omega
end DL
namespace DL
def Rel2 (R : Nat → Nat → Prop) (T L : Nat) : Prop := 1 ≤ L ∧ ∀ s t, R s t ↔ (s = t ∨ (T ≤ s ∧ T ≤ t ∧ s % L = t % L))
theorem Rel2.le {R : Nat → Nat → Prop} {T L T' L' : Nat} (h : Rel2 R T L) (h' : Rel2 R T' L') : T' ≤ T ∧ L' ∣ L := by
  have a : R T (T + L) := (h.2 _ _).mpr (.inr ⟨Nat.le_refl _, Nat.le_add_right _ _, by rw [Nat.add_mod_right]⟩)
  rcases (h'.2 _ _).mp a with e | ⟨l1, _, e⟩
  · have := h.1; omega
  · refine ⟨l1, ?_⟩
    have : (T + L - T) % L' = 0 := Nat.sub_mod_eq_zero_of_mod_eq e.symm
    rw [Nat.add_sub_cancel_left] at this
    exact Nat.dvd_of_mod_eq_zero this
theorem Rel2.uniq {R : Nat → Nat → Prop} {T L T' L' : Nat} (h : Rel2 R T L) (h' : Rel2 R T' L') : T = T' ∧ L = L' := by
  obtain ⟨a, b⟩ := h.le h'
  obtain ⟨c, d⟩ := h'.le h
  exact ⟨Nat.le_antisymm c a, Nat.dvd_antisymm d b⟩
theorem Rel2.none : Rel2 (fun _ _ => True) 0 1 := ⟨Nat.le_refl _, fun s t => ⟨fun _ => .inr ⟨Nat.zero_le _, Nat.zero_le _, by rw [Nat.mod_one, Nat.mod_one]⟩, fun _ => trivial⟩⟩
theorem Rel2.congr {R R' : Nat → Nat → Prop} {T L : Nat} (h : Rel2 R T L) (e : ∀ s t, R' s t ↔ R s t) : Rel2 R' T L := ⟨h.1, fun s t => (e s t).trans (h.2 s t)⟩
theorem mod_lcm {s t a b : Nat} : (s % a = t % a ∧ s % b = t % b) ↔ s % Nat.lcm a b = t % Nat.lcm a b := by
  have key : ∀ {m s t : Nat}, s ≤ t → (s % m = t % m ↔ m ∣ t - s) := fun {m s t} h => by
    refine ⟨fun e => Nat.dvd_of_mod_eq_zero (Nat.sub_mod_eq_zero_of_mod_eq e.symm), fun ⟨k, hk⟩ => ?_⟩
    have : t = s + m * k := by omega
    rw [this, Nat.add_mul_mod_self_left]
  have go : ∀ {s t : Nat}, s ≤ t → ((s % a = t % a ∧ s % b = t % b) ↔ s % Nat.lcm a b = t % Nat.lcm a b) := fun {s t} h => by
    rw [key h, key h, key h]
    exact ⟨fun ⟨x, y⟩ => Nat.lcm_dvd x y, fun x => ⟨Nat.dvd_trans (Nat.dvd_lcm_left _ _) x, Nat.dvd_trans (Nat.dvd_lcm_right _ _) x⟩⟩
  rcases Nat.le_total s t with h | h
  · exact go h
  · have := go h
    exact ⟨fun ⟨x, y⟩ => (this.mp ⟨x.symm, y.symm⟩).symm, fun x => by have := this.mpr x.symm; exact ⟨this.1.symm, this.2.symm⟩⟩
theorem Rel2.and {R R' : Nat → Nat → Prop} {T L T' L' : Nat} (h : Rel2 R T L) (h' : Rel2 R' T' L') : Rel2 (fun s t => R s t ∧ R' s t) (max T T') (Nat.lcm L L') := by
  refine ⟨Nat.lcm_pos h.1 h'.1, fun s t => ?_⟩
  show (R s t ∧ R' s t) ↔ _
  rw [h.2, h'.2, ← mod_lcm]
  constructor
  · rintro ⟨e | ⟨a, b, c⟩, e' | ⟨a', b', c'⟩⟩
    · exact .inl e
    · exact .inl e
    · exact .inl e'
    · exact .inr ⟨by omega, by omega, c, c'⟩
  · rintro (e | ⟨a, b, c, c'⟩)
    · exact ⟨.inl e, .inl e⟩
    · exact ⟨.inr ⟨by omega, by omega, c⟩, .inr ⟨by omega, by omega, c'⟩⟩
def itN2 (ns : List Int) : Nat → Int → Int
  | 0, x => x
  | t + 1, x => ns.getD (itN2 ns t x).toNat 0
theorem itN2_bd {ns : List Int} {c : Nat} (hl : ns.length = c) (hb : ∀ n ∈ ns, 0 ≤ n ∧ n < (c : Nat)) {x : Int} (h0 : 0 ≤ x ∧ x < (c : Nat)) : ∀ t, 0 ≤ itN2 ns t x ∧ itN2 ns t x < (c : Nat)
  | 0 => h0
  | t + 1 => by
    have ih := itN2_bd hl hb h0 t
    have lt : (itN2 ns t x).toNat < ns.length := by omega
    refine hb _ ?_
    show ns.getD _ 0 ∈ ns
    rw [List.getD_eq_getElem?_getD, List.getElem?_eq_getElem lt]
    exact List.getElem_mem lt
theorem itN2_add (ns : List Int) (a : Nat) (x : Int) : ∀ b, itN2 ns b (itN2 ns a x) = itN2 ns (a + b) x
  | 0 => rfl
  | b + 1 => by
    show ns.getD (itN2 ns b (itN2 ns a x)).toNat 0 = ns.getD (itN2 ns (a + b) x).toNat 0
    rw [itN2_add ns a x b]
end DL
namespace DL
open PySem L2 PyProof.Rows
def trN (ns : List Int) (b : Int) (n : Nat) : List Int := (List.range n).map fun k => itN2 ns k b
theorem trN_len (ns : List Int) (b : Int) (n : Nat) : (trN ns b n).length = n := by unfold trN; simp
def Apart2 (ns : List Int) (b : Int) (n : Nat) : Prop := ∀ i j, i < j → j < n → itN2 ns i b ≠ itN2 ns j b
theorem Apart2.snoc {ns : List Int} {b : Int} {n : Nat} (h : Apart2 ns b n) (hn : ∀ k, k < n → itN2 ns k b ≠ itN2 ns n b) : Apart2 ns b (n + 1) := fun i j hij hj => by
  by_cases e : j < n
  · exact h i j hij e
  · have : j = n := by omega
    subst this
    exact hn i hij
theorem Apart2.le {ns : List Int} {c : Nat} {b : Int} {n : Nat} (hl : ns.length = c) (hb : ∀ n ∈ ns, 0 ≤ n ∧ n < (c : Nat)) (h0 : 0 ≤ b ∧ b < (c : Nat)) (h : Apart2 ns b n) : n ≤ c := by
  have nd : (trN ns b n).Nodup := by
    unfold trN
    rw [List.nodup_iff_pairwise_ne, List.pairwise_map]
    exact List.Pairwise.imp_of_mem (fun {i j} hi hj (r : i < j) => h i j r (List.mem_range.mp hj)) List.pairwise_lt_range
  have sub : ∀ {a b : List Int}, a.Nodup → (∀ x ∈ a, x ∈ b) → a.length ≤ b.length := fun {a b} ha hs => by
    induction a generalizing b with
    | nil => exact Nat.zero_le _
    | cons x r ih =>
      obtain ⟨h1, h2⟩ := List.nodup_cons.mp ha
      have hx := hs x List.mem_cons_self
      have := ih (b := b.erase x) h2 fun y hy => (List.mem_erase_of_ne (fun e => h1 (by rw [← e]; exact hy))).mpr (hs y (List.mem_cons_of_mem _ hy))
      rw [List.length_erase_of_mem hx] at this
      have p := List.length_pos_of_mem hx
      rw [List.length_cons]
      omega
  have := sub (b := (List.range c).map fun n : Nat => (n : Int)) nd fun x hx => by
    unfold trN at hx
    obtain ⟨k, _, rfl⟩ := List.mem_map.mp hx
    have z := itN2_bd hl hb h0 k
    exact List.mem_map.mpr ⟨(itN2 ns k b).toNat, List.mem_range.mpr (by omega), by omega⟩
  rw [trN_len] at this
  simpa using this
end DL
namespace DL
open PySem L2 PyProof.Rows
theorem tab_bd0 {f : FT} {c : Nat} (c0 : 0 < c) : ∀ n ∈ tabI f c, 0 ≤ n ∧ n < (c : Nat) := fun n hn => by
  obtain ⟨i, _, rfl⟩ := List.mem_map.mp hn
  exact ⟨Int.emod_nonneg _ (by omega), Int.emod_lt_of_pos _ (by omega)⟩
theorem tab_getD {f : FT} {c : Nat} {x : Int} (h : 0 ≤ x ∧ x < (c : Nat)) : (tabI f c).getD x.toNat 0 = f.val x 0 % c := by
  rw [List.getD_eq_getElem?_getD, tab_at (by omega), Int.toNat_of_nonneg h.1]; rfl
theorem at_inj {ns : List Int} {c : Nat} (hl : ns.length = c) (nd : ns.Nodup) {x y : Int} (hx : 0 ≤ x ∧ x < (c : Nat)) (hy : 0 ≤ y ∧ y < (c : Nat)) (e : ns.getD x.toNat 0 = ns.getD y.toNat 0) : x = y := by
  have lx : x.toNat < ns.length := by omega
  have ly : y.toNat < ns.length := by omega
  rw [List.getD_eq_getElem?_getD, List.getD_eq_getElem?_getD, List.getElem?_eq_getElem lx, List.getElem?_eq_getElem ly] at e
  have := (List.getElem_inj nd).mp e
  omega
theorem it_inj {ns : List Int} {c : Nat} (hl : ns.length = c) (hb : ∀ n ∈ ns, 0 ≤ n ∧ n < (c : Nat)) (nd : ns.Nodup) {x y : Int} (hx : 0 ≤ x ∧ x < (c : Nat)) (hy : 0 ≤ y ∧ y < (c : Nat)) : ∀ t, itN2 ns t x = itN2 ns t y → x = y
  | 0, e => e
  | t + 1, e => it_inj hl hb nd hx hy t (at_inj hl nd (itN2_bd hl hb hx t) (itN2_bd hl hb hy t) e)
theorem it_back {ns : List Int} {c : Nat} (hl : ns.length = c) (hb : ∀ n ∈ ns, 0 ≤ n ∧ n < (c : Nat)) (nd : ns.Nodup) {b : Int} (h0 : 0 ≤ b ∧ b < (c : Nat)) : ∃ L, 1 ≤ L ∧ itN2 ns L b = b := by
  refine Classical.byContradiction fun no => ?_
  have ap : Apart2 ns b (c + 1) := fun i j hij hj e => no ⟨j - i, by omega, ?_⟩
  · have := ap.le hl hb h0
    omega
  · have e2 : itN2 ns i (itN2 ns (j - i) b) = itN2 ns i b := by rw [itN2_add, show j - i + i = j by omega, e]
    exact it_inj hl hb nd (itN2_bd hl hb h0 _) h0 i e2
theorem it_mul {ns : List Int} {b : Int} {L : Nat} (h : itN2 ns L b = b) : ∀ k, itN2 ns (L * k) b = b
  | 0 => rfl
  | k + 1 => by rw [Nat.mul_succ, ← itN2_add, it_mul h k, h]
theorem it_order {ns : List Int} {c : Nat} (hl : ns.length = c) (hb : ∀ n ∈ ns, 0 ≤ n ∧ n < (c : Nat)) (nd : ns.Nodup) : ∀ n : Nat, n ≤ c → ∃ M, 1 ≤ M ∧ ∀ b : Nat, b < n → itN2 ns M ((b : Nat) : Int) = ((b : Nat) : Int)
  | 0, _ => ⟨1, Nat.le_refl _, fun b h => by omega⟩
  | n + 1, h => by
    obtain ⟨M, m1, hM⟩ := it_order hl hb nd n (by omega)
    obtain ⟨L, l1, hL⟩ := it_back hl hb nd (b := ((n : Nat) : Int)) (by omega)
    refine ⟨M * L, Nat.mul_pos m1 l1, fun b hb' => ?_⟩
    rcases Nat.lt_or_ge b n with z | z
    · exact it_mul (hM b z) L
    · have : b = n := by omega
      subst this
      rw [Nat.mul_comm]
      exact it_mul hL M
def Inv (f : FT) (c : Nat) (g : Nat → Int) : Prop := ∀ b : Nat, b < c → g (f.val (b : Nat) 0 % (c : Int)).toNat = ((b : Nat) : Int)
theorem inv_at {f : FT} {c : Nat} (c0 : 0 < c) (nd : (tabI f c).Nodup) : ∃ t, ∀ g, Inv f c g → ∀ x : Nat, x < c → g x = itN2 (tabI f c) t ((x : Nat) : Int) ∧ 0 ≤ g x ∧ g x < (c : Nat) := by
  obtain ⟨M, m1, hM⟩ := it_order (tab_len f c) (tab_bd0 c0) nd c (Nat.le_refl _)
  refine ⟨M - 1, fun g h x hx => ?_⟩
  have bd := itN2_bd (tab_len f c) (tab_bd0 (f := f) c0) (x := ((x : Nat) : Int)) (by omega) (M - 1)
  have e1 : itN2 (tabI f c) (M - 1 + 1) ((x : Nat) : Int) = ((x : Nat) : Int) := by rw [show M - 1 + 1 = M by omega]; exact hM x hx
  have e2 : f.val (itN2 (tabI f c) (M - 1) ((x : Nat) : Int)) 0 % (c : Int) = ((x : Nat) : Int) := by rw [← tab_getD bd]; exact e1
  generalize itN2 (tabI f c) (M - 1) ((x : Nat) : Int) = y at bd e2 ⊢
  have e3 := h y.toNat (by omega)
  rw [Int.toNat_of_nonneg bd.1, e2] at e3
  have e4 : (((x : Nat) : Int)).toNat = x := rfl
  rw [e4] at e3
  exact ⟨e3, by omega, by omega⟩
def LedV (f : FT) (c : Nat) (v : Nat → Int) : Prop := (∃ g, Inv f c g ∧ Tells g v c) ∧ ∀ k, c ≤ k → v k = 0
theorem LedV.uniq {f : FT} {c : Nat} (c0 : 0 < c) (nd : (tabI f c).Nodup) {v w : Nat → Int} (h : LedV f c v) (h' : LedV f c w) : v = w := by
  obtain ⟨⟨g, hg, tv⟩, zv⟩ := h
  obtain ⟨⟨g', hg', tw⟩, zw⟩ := h'
  obtain ⟨t, ht⟩ := inv_at c0 nd
  funext k
  rcases Nat.lt_or_ge k c with hk | hk
  · obtain ⟨a1, a2⟩ := tv k hk
    obtain ⟨b1, b2⟩ := tw k hk
    refine row_one c0 a1 b1 ?_
    rw [a2, b2]
    exact itN_mod k (N := c) (fun x hx => by rw [(ht g hg x hx).1, (ht g' hg' x hx).1]) (by omega)
  · rw [zv k hk, zw k hk]
end DL
namespace DL
open PySem L2 PyProof.Rows
end DL
namespace DL
open PySem L2 PyProof.Rows
def FT.put : FT → FT → FT
  | .int i, _ => .int i
  | .x, g => g
  | .y, _ => .y
  | .add a b, g => .add (a.put g) (b.put g)
  | .sub a b, g => .sub (a.put g) (b.put g)
  | .mul a b, g => .mul (a.put g) (b.put g)
  | .pow a n, g => .pow (a.put g) n
end DL
namespace DL
open PySem L2 PyProof.Rows
abbrev N_parted : List Str := ["one", "other", "clock", "far", "x"]
def ir_parted (S_worth : FSpec) : TSt :=
  (sSeq (sFor (iRg (aCons (.e (dBin bAdd (.e (dC (.int 16))) (.e (dC (.int 1))))) aNil)) (.nm 3) (sFor (iRg (aCons (.e (dBin bAdd (.s 3) (.e (dC (.int 1))))) aNil)) (.nm 4) (sIf (tVal (dBin cNe (.e (dBin bMod (.e (dBin bSub (.e (dFz (fCall S_worth (aCons (.e (dVar 0)) (aCons (.e (dVar 4)) (aCons (.e (dBin bSub (.s 3) (.s 4))) aNil)))))) (.e (dFz (fCall S_worth (aCons (.e (dVar 1)) (aCons (.e (dVar 4)) (aCons (.e (dBin bSub (.s 3) (.s 4))) aNil)))))))) (.s 2))) (.e (dC (.int 0))))) (sRet (fD (dTup (aCons (.e (dVar 4)) (aCons (.e (dBin bSub (.s 3) (.s 4))) aNil))))) sNext)))
    (sRet (fD (dC (.none)))))
theorem sp_parted : ∀ args Q, S_parted.sp args Q → ir_parted (S_worth 17) (endsOf args Q) (rho0 N_parted args) := by
  rintro args Q ⟨f, g, c, m, rfl, hl, of_, og, hm, hc, q⟩
  refine ⟨by decide, _, rfl, fun i ρ => (∃ t u, ρ = [some (.d f.pd), some (.d g.pd), some (.d (.int c)), t, u]) ∧ ∀ p ∈ triTo i, bad f g c p = false, ⟨⟨none, none, rfl⟩, fun p hp => by cases hp⟩, ?_, ?_⟩
  · rintro i y ρ hx ⟨⟨t, u, rfl⟩, hb⟩
    obtain ⟨rfl, hi⟩ := rngD_get hx
    have hi : i < 17 := hi
    have e : (0 : Int) + (i : Nat) = (i : Nat) := by omega
    rw [e]
    refine ⟨by omega, _, rfl, fun j ρ => (∃ u, ρ = [some (.d f.pd), some (.d g.pd), some (.d (.int c)), some (.d (.int i)), u]) ∧ ∀ x, x < j → bad f g c (x, i) = false, ⟨⟨u, rfl⟩, fun x hx => by omega⟩, ?_, ?_⟩
    · rintro j z ρ hz ⟨⟨u, rfl⟩, hb2⟩
      obtain ⟨rfl, hj⟩ := rngD_get hz
      have ej : (0 : Int) + (j : Nat) = (j : Nat) := by omega
      rw [ej]
      have hj : j < i + 1 := by have hj : j < (((i : Nat) : Int) + 1).toNat := hj; omega
      have s1 : ((j : Nat) : Int).natAbs < 2 ^ m := Nat.lt_of_lt_of_le (show _ < 2 ^ 10 by omega) (Nat.pow_le_pow_right (by decide) hm)
      have s2 : (((i : Nat) : Int) - ((j : Nat) : Int)).natAbs < 2 ^ m := Nat.lt_of_lt_of_le (show _ < 2 ^ 10 by omega) (Nat.pow_le_pow_right (by decide) hm)
      refine ⟨rfl, f, _, _, m, rfl, hl.1, of_, s1, s2, rfl, g, _, _, m, rfl, hl.2, og, s1, s2, by omega, fun h => ?_, fun h => ?_⟩
      · have hbad : bad f g c (j, i) = true := by
          have h : (!decide ((f.val (j : Nat) ((i : Nat) - (j : Nat)) - g.val (j : Nat) ((i : Nat) - (j : Nat))) % (c : Int) = 0)) = true := h
          simpa [bad] using h
        have := part_some hi hj hb hb2 hbad
        rw [this] at q
        exact q
      · refine ⟨⟨_, rfl⟩, fun x hx => ?_⟩
        by_cases z : x = j
        · subst z
          have h : (!decide ((f.val (x : Nat) ((i : Nat) - (x : Nat)) - g.val (x : Nat) ((i : Nat) - (x : Nat))) % (c : Int) = 0)) = false := h
          simpa [bad] using h
        · exact hb2 x (by omega)
    · rintro ρ ⟨⟨u, rfl⟩, hb2⟩
      refine ⟨⟨_, _, rfl⟩, fun p hp => ?_⟩
      rw [triTo_succ] at hp
      rcases List.mem_append.mp hp with hp | hp
      · exact hb p hp
      · obtain ⟨x, hx, rfl⟩ := List.mem_map.mp hp
        refine hb2 x ?_
        have el : (rngD 0 (((i : Nat) : Int) + 1 - 0).toNat).length = i + 1 := by
          rw [show (((i : Nat) : Int) + 1 - 0).toNat = i + 1 by omega]; exact rngD_len
        have hx := List.mem_range.mp hx
        first
          | (rw [rngD_len]; omega)
          | (show x < (rngD 0 (((i : Nat) : Int) + 1).toNat).length; rw [rngD_len]; omega)
  · rintro ρ ⟨⟨t, u, rfl⟩, hb⟩
    have := part_none (f := f) (g := g) (c := c) hb
    rw [this] at q
    exact q
end DL
namespace DL
open PySem L2 PyProof.Rows
section
variable {κ : Type} [DecidableEq κ]
theorem valP_map (k k' : κ) (x : PD) : ∀ kvs : List (κ × PD), valP (kvs.map fun p => if p.1 = k then (p.1, x) else p) k' = if k = k' then (if hasP kvs k = true then some x else none) else valP kvs k'
  | [] => by simp [valP, hasP]
  | p :: r => by
    have ih := valP_map k k' x r
    rw [List.map_cons]
    by_cases h1 : p.1 = k
    · by_cases h2 : k = k'
      · subst h1; subst h2; simp [valP, hasP]
      · rw [if_neg h2] at ih ⊢
        simp only [if_pos h1, valP]
        rw [if_neg (by rw [h1]; exact h2), if_neg (by rw [h1]; exact h2)]
        exact ih
    · simp only [if_neg h1, valP]
      by_cases h3 : p.1 = k'
      · rw [if_pos h3, if_pos h3]
        rw [if_neg (fun e => h1 (by rw [h3, e]))]
      · rw [if_neg h3, if_neg h3, ih]
        have : hasP (p :: r) k = hasP r k := by simp [hasP, h1]
        rw [this]
theorem valP_app (k' : κ) (k : κ) (x : PD) : ∀ kvs : List (κ × PD), valP (kvs ++ [(k, x)]) k' = match valP kvs k' with
    | some y => some y
    | none => if k = k' then some x else none
  | [] => by simp [valP]
  | p :: r => by
    rw [List.cons_append]
    unfold valP
    by_cases h : p.1 = k'
    · rw [if_pos h, if_pos h]
    · rw [if_neg h, if_neg h, valP_app k' k x r]
theorem hasP_val (k : κ) : ∀ kvs : List (κ × PD), hasP kvs k = (valP kvs k).isSome
  | [] => rfl
  | p :: r => by
    have ih := hasP_val k r
    unfold valP
    by_cases h : p.1 = k
    · rw [if_pos h]; simp [hasP, h]
    · rw [if_neg h, ← ih]; simp [hasP, h]
theorem val_put (kvs : List (κ × PD)) (k k' : κ) (x : PD) : valP (putP kvs k x) k' = if k = k' then some x else valP kvs k' := by
  unfold putP
  by_cases h : hasP kvs k = true
  · rw [if_pos h, valP_map, h, if_pos rfl]
  · rw [if_neg h, valP_app]
    rw [hasP_val] at h
    by_cases e : k = k'
    · subst e
      rw [if_pos rfl, if_pos rfl]
      cases z : valP kvs k with
      | none => rfl
      | some y => rw [z] at h; exact absurd rfl h
    · rw [if_neg e, if_neg e]
      cases valP kvs k' <;> rfl
theorem putP_len (kvs : List (κ × PD)) (k : κ) (x : PD) : (putP kvs k x).length ≤ kvs.length + 1 := by
  unfold putP
  split
  · rw [List.length_map]; omega
  · rw [List.length_append]; exact Nat.le_refl _
end
def keyR (i j : Nat) : List Key := [.inl (i : Nat), .inl (j : Nat)]
def dctR (rs : List T3) : List (List Key × PD) := rs.foldl (fun acc t => putP acc (keyR t.1 t.2.1) (.int t.2.2)) []
theorem dctR_len (rs : List T3) : (dctR rs).length ≤ rs.length := by
  have : ∀ (rs : List T3) (acc : List (List Key × PD)), (rs.foldl (fun acc t => putP acc (keyR t.1 t.2.1) (.int t.2.2)) acc).length ≤ acc.length + rs.length := by
    intro rs
    induction rs with
    | nil => intro acc; simp
    | cons t rs ih =>
      intro acc
      rw [List.foldl_cons, List.length_cons]
      have := ih (putP acc (keyR t.1 t.2.1) (.int t.2.2))
      have := putP_len acc (keyR t.1 t.2.1) (.int t.2.2)
      omega
  have := this rs []
  rw [List.length_nil, Nat.zero_add] at this
  exact this
theorem dctR_snoc (rs : List T3) (t : T3) : dctR (rs ++ [t]) = putP (dctR rs) (keyR t.1 t.2.1) (.int t.2.2) := by unfold dctR; rw [List.foldl_append]; rfl
def RowsAt (rs : List T3) (v : Nat → Nat → Int) : Prop := (∀ t ∈ rs, t.2.2 = v t.1 t.2.1) ∧ ∀ i j, i ≤ 16 → j ≤ 16 → v i j ≠ 0 → (i, j, v i j) ∈ rs
theorem keyR_inj {i j k l : Nat} (h : keyR i j = keyR k l) : i = k ∧ j = l := by
  unfold keyR at h
  simp at h
  omega
theorem dctR_at {v : Nat → Nat → Int} {i j : Nat} {rs : List T3} (h : ∀ t ∈ rs, t.2.2 = v t.1 t.2.1) : valP (dctR rs) (keyR i j) = if (∃ t ∈ rs, t.1 = i ∧ t.2.1 = j) then some (.int (v i j)) else none := by
  have gen : ∀ (rs : List T3) (acc : List (List Key × PD)), (∀ t ∈ rs, t.2.2 = v t.1 t.2.1) → valP (rs.foldl (fun acc t => putP acc (keyR t.1 t.2.1) (.int t.2.2)) acc) (keyR i j) = if (∃ t ∈ rs, t.1 = i ∧ t.2.1 = j) then some (.int (v i j)) else valP acc (keyR i j) := by
    intro rs
    induction rs with
    | nil => intro acc _; simp
    | cons t rs ih =>
      intro acc h
      rw [List.foldl_cons, ih _ fun s hs => h s (List.mem_cons_of_mem _ hs), val_put]
      have ht := h t (List.mem_cons_self ..)
      by_cases e1 : ∃ s ∈ rs, s.1 = i ∧ s.2.1 = j
      · have e2 : ∃ s ∈ t :: rs, s.1 = i ∧ s.2.1 = j := e1.elim fun s hs => ⟨s, List.mem_cons_of_mem _ hs.1, hs.2⟩
        rw [if_pos e1, if_pos e2]
      · rw [if_neg e1]
        by_cases e : keyR t.1 t.2.1 = keyR i j
        · obtain ⟨k1, k2⟩ := keyR_inj e
          have e2 : ∃ s ∈ t :: rs, s.1 = i ∧ s.2.1 = j := ⟨t, List.mem_cons_self .., k1, k2⟩
          rw [if_pos e, if_pos e2, ht, k1, k2]
        · have e2 : ¬ ∃ s ∈ t :: rs, s.1 = i ∧ s.2.1 = j := fun ⟨s, hs, k1, k2⟩ => by
            rcases List.mem_cons.mp hs with rfl | hs
            · exact e (by rw [k1, k2])
            · exact e1 ⟨s, hs, k1, k2⟩
          rw [if_neg e, if_neg e2]
  have := gen rs [] h
  exact this
theorem dctR_get {rs : List T3} {v : Nat → Nat → Int} (h : RowsAt rs v) {i j : Nat} (hi : i ≤ 16) (hj : j ≤ 16) : (valP (dctR rs) (keyR i j)).getD (.int 0) = .int (v i j) := by
  rw [dctR_at h.1]
  split
  · rfl
  · rename_i no
    by_cases z : v i j = 0
    · rw [z]; rfl
    · exact absurd ⟨_, h.2 i j hi hj z, rfl, rfl⟩ no
def CR (s : Nat) (a : Int) (z : Nat) (b c : Int) : Prop := 0 ≤ c ∧ c < (s : Int) * ((z / Nat.gcd s z : Nat) : Int) ∧ (s : Int) ∣ c - a ∧ (z : Int) ∣ c - b
theorem CR.uniq {s z : Nat} {a b c d : Int} (s0 : 0 < s) (h : CR s a z b c) (k : CR s a z b d) : c = d := by
  obtain ⟨h1, h2, h3, h4⟩ := h
  obtain ⟨k1, k2, k3, k4⟩ := k
  have e1 : (s : Int) ∣ c - d := by have := Int.dvd_sub h3 k3; rwa [show c - a - (d - a) = c - d by omega] at this
  have e2 : (z : Int) ∣ c - d := by have := Int.dvd_sub h4 k4; rwa [show c - b - (d - b) = c - d by omega] at this
  have l1 : s ∣ (c - d).natAbs := Int.ofNat_dvd_left.mp e1
  have l2 : z ∣ (c - d).natAbs := Int.ofNat_dvd_left.mp e2
  have l3 := Nat.lcm_dvd l1 l2
  have el : Nat.lcm s z = s * (z / Nat.gcd s z) := by unfold Nat.lcm; exact Nat.mul_div_assoc s (Nat.gcd_dvd_right s z)
  rw [el] at l3
  have big : (c - d).natAbs < s * (z / Nat.gcd s z) := by
    rw [← Int.natCast_mul] at h2 k2
    omega
  have := Nat.eq_zero_of_dvd_of_lt l3 big
  omega
end DL
namespace DL
open PySem L2 PyProof.Rows
theorem itY_dv2 {m : Int} {f : F2I} {x : Int} : ∀ (n b : Nat), (∀ k, k ≤ n → m ∣ f x ((b + k : Nat) : Int)) → m ∣ itY n f x (b : Nat)
  | 0, b, h => h 0 (Nat.le_refl _)
  | n + 1, b, h => by
    have h1 := itY_dv2 n (b + 1) fun k hk => by have := h (k + 1) (by omega); rw [show b + 1 + k = b + (k + 1) by omega]; exact this
    have h2 := itY_dv2 n b fun k hk => h k (by omega)
    exact Int.dvd_sub h1 h2
theorem itX_dv2 {m : Int} {f : F2I} {y : Int} : ∀ (n a : Nat), (∀ k, k ≤ n → m ∣ f ((a + k : Nat) : Int) y) → m ∣ itX n f (a : Nat) y
  | 0, a, h => h 0 (Nat.le_refl _)
  | n + 1, a, h => by
    have h1 := itX_dv2 n (a + 1) fun k hk => by have := h (k + 1) (by omega); rw [show a + 1 + k = a + (k + 1) by omega]; exact this
    have h2 := itX_dv2 n a fun k hk => h k (by omega)
    exact Int.dvd_sub h1 h2
theorem dd_dv2 {m : Int} {f : F2I} {i j : Nat} (h : ∀ a b : Nat, a ≤ i → b ≤ j → m ∣ f (a : Nat) (b : Nat)) : m ∣ dd i j f := by
  unfold dd
  refine itX_dv2 i 0 fun k hk => ?_
  rw [Nat.zero_add]
  exact itY_dv2 j 0 fun l hl => by rw [Nat.zero_add]; exact h k l hk hl
theorem rD_of {f : F2I} {i j : Nat} (hi : i < 17) (hj : j < 17) (h : dd i j f ≠ 0) : (i, j, cof f i j) ∈ rD f 17 := by
  unfold rD rI
  refine List.mem_flatMap.mpr ⟨i, List.mem_range.mpr hi, List.mem_flatMap.mpr ⟨j, List.mem_range.mpr hj, ?_⟩⟩
  rw [if_neg h]
  exact List.mem_singleton.mpr rfl
def cofC (f : FT) (c i j : Nat) : Int := cof (fun u v => f.val u v) i j % ((stp c i j : Nat) : Int)
def crP (f g : FT) (c d i j : Nat) (x : Int) : Prop := CR (stp c i j) (cofC f c i j) (stp d i j) (cofC g d i j) x
open Classical in
noncomputable def v0 (f g : FT) (c d i j : Nat) : Int := if h : ∃ x, crP f g c d i j x then Classical.choose h else 0
end DL
namespace DL
open PySem L2 PyProof.Rows
abbrev N2 := Nat × Nat
def pLt (p q : N2) : Prop := p.1 < q.1 ∨ (p.1 = q.1 ∧ p.2 < q.2)
theorem slt_ext : ∀ {l m : List N2}, l.Pairwise pLt → m.Pairwise pLt → (∀ p, p ∈ l ↔ p ∈ m) → l = m
  | [], [], _, _, _ => rfl
  | [], b :: m, _, _, h => absurd ((h b).mpr List.mem_cons_self) (by simp)
  | a :: l, [], _, _, h => absurd ((h a).mp List.mem_cons_self) (by simp)
  | a :: l, b :: m, hl, hm, h => by
    obtain ⟨l1, l2⟩ := List.pairwise_cons.mp hl
    obtain ⟨m1, m2⟩ := List.pairwise_cons.mp hm
    have eab : a = b := by
      rcases List.mem_cons.mp ((h a).mp List.mem_cons_self) with e | e
      · exact e
      · rcases List.mem_cons.mp ((h b).mpr List.mem_cons_self) with e2 | e2
        · exact e2.symm
        · have x := m1 a e
          have y := l1 b e2
          unfold pLt at x y
          omega
    subst eab
    have irr : ∀ p : N2, ¬ pLt p p := fun p z => by unfold pLt at z; omega
    rw [slt_ext l2 m2 fun p => ?_]
    constructor
    · intro hp
      rcases List.mem_cons.mp ((h p).mp (List.mem_cons_of_mem _ hp)) with e | e
      · rw [e] at hp; exact absurd (l1 _ hp) (irr _)
      · exact e
    · intro hp
      rcases List.mem_cons.mp ((h p).mpr (List.mem_cons_of_mem _ hp)) with e | e
      · rw [e] at hp; exact absurd (m1 _ hp) (irr _)
      · exact e
def allP : List N2 := (List.range 17).flatMap fun i => (List.range 17).map fun j => (i, j)
instance (p q : N2) : Decidable (pLt p q) := by unfold pLt; exact inferInstance
theorem allP_pw : allP.Pairwise pLt := by decide +kernel
theorem allP_mem {p : N2} : p ∈ allP ↔ p.1 < 17 ∧ p.2 < 17 := by
  unfold allP
  constructor
  · intro h
    obtain ⟨i, hi, h⟩ := List.mem_flatMap.mp h
    obtain ⟨j, hj, rfl⟩ := List.mem_map.mp h
    exact ⟨List.mem_range.mp hi, List.mem_range.mp hj⟩
  · intro ⟨h1, h2⟩
    exact List.mem_flatMap.mpr ⟨p.1, List.mem_range.mpr h1, List.mem_map.mpr ⟨p.2, List.mem_range.mpr h2, rfl⟩⟩
theorem flatMap_if {α β : Type} (P : α → Prop) [DecidablePred P] (g : α → β) : ∀ l : List α, (l.flatMap fun x => if P x then [] else [g x]) = (l.filter fun x => !decide (P x)).map g
  | [] => rfl
  | x :: l => by
    rw [List.flatMap_cons, flatMap_if P g l]
    by_cases h : P x
    · rw [if_pos h, List.filter_cons_of_neg (by simp [h])]; rfl
    · rw [if_neg h, List.filter_cons_of_pos (by simp [h]), List.map_cons]; rfl
theorem rD_all (f : F2I) : rD f 17 = (allP.filter fun p => !decide (dd p.1 p.2 f = 0)).map fun p => (p.1, p.2, cof f p.1 p.2) := by
  rw [← flatMap_if (fun p : N2 => dd p.1 p.2 f = 0) (fun p : N2 => (p.1, p.2, cof f p.1 p.2)) allP]
  unfold rD rI allP
  rw [List.flatMap_assoc]
  simp only [List.flatMap_map]
structure GOk (kvs : List (List Key × PD)) (v : Nat → Nat → Int) : Prop where
  at_ : ∀ i j, i < 17 → j < 17 → (valP kvs (keyR i j)).getD (.int 0) = .int (v i j)
  keys : ∃ ns : List N2, kvs.map (·.1) = ns.map (fun p => keyR p.1 p.2) ∧ ns.Nodup ∧ ∀ p ∈ ns, p.1 < 17 ∧ p.2 < 17
theorem GOk.nil : GOk [] fun _ _ => 0 := ⟨fun _ _ _ _ => rfl, [], rfl, List.nodup_nil, fun _ h => by cases h⟩
theorem hasP_key {kvs : List (List Key × PD)} {k : List Key} : hasP kvs k = true ↔ k ∈ kvs.map (·.1) := by
  unfold hasP
  rw [List.any_eq_true]
  constructor
  · rintro ⟨p, hp, e⟩
    exact List.mem_map.mpr ⟨p, hp, of_decide_eq_true e⟩
  · intro h
    obtain ⟨p, hp, e⟩ := List.mem_map.mp h
    exact ⟨p, hp, decide_eq_true e⟩
theorem GOk.put {kvs : List (List Key × PD)} {v : Nat → Nat → Int} (h : GOk kvs v) {i j : Nat} (hi : i < 17) (hj : j < 17) (x : Int) : GOk (putP kvs (keyR i j) (.int x)) fun k l => if k = i ∧ l = j then x else v k l := by
  refine ⟨fun k l hk hl => ?_, ?_⟩
  · rw [val_put]
    by_cases e : k = i ∧ l = j
    · rw [if_pos e, if_pos (by rw [e.1, e.2])]; rfl
    · rw [if_neg e, if_neg (fun z => e (by obtain ⟨a, b⟩ := keyR_inj z; exact ⟨a.symm, b.symm⟩))]
      exact h.at_ k l hk hl
  · obtain ⟨ns, e, nd, b⟩ := h.keys
    unfold putP
    by_cases hp : hasP kvs (keyR i j) = true
    · rw [if_pos hp]
      refine ⟨ns, ?_, nd, b⟩
      rw [List.map_map, ← e]
      apply List.map_congr_left
      intro p _
      show (if p.1 = keyR i j then (p.1, PyData.int x) else p).1 = p.1
      split <;> rfl
    · rw [if_neg hp]
      refine ⟨ns ++ [(i, j)], by rw [List.map_append, List.map_append, e]; rfl, ?_, fun p hp' => ?_⟩
      · refine List.nodup_append.mpr ⟨nd, List.nodup_cons.mpr ⟨by simp, List.nodup_nil⟩, fun a ha b hb => ?_⟩
        have hb := List.mem_singleton.mp hb
        subst hb
        rintro rfl
        exact hp (hasP_key.mpr (by rw [e]; exact List.mem_map.mpr ⟨_, ha, rfl⟩))
      · rcases List.mem_append.mp hp' with hp' | hp'
        · exact b p hp'
        · have := List.mem_singleton.mp hp'
          subst this
          exact ⟨hi, hj⟩
theorem nd_le {α : Type} [DecidableEq α] : ∀ {l m : List α}, l.Nodup → (∀ x ∈ l, x ∈ m) → l.length ≤ m.length
  | [], _, _, _ => Nat.zero_le _
  | a :: l, m, h, s => by
    obtain ⟨h1, h2⟩ := List.nodup_cons.mp h
    have ha := s a List.mem_cons_self
    have := nd_le (l := l) (m := m.erase a) h2 fun x hx => (List.mem_erase_of_ne (fun z => h1 (by rw [← z]; exact hx))).mpr (s x (List.mem_cons_of_mem _ hx))
    rw [List.length_erase_of_mem ha] at this
    have := List.length_pos_of_mem ha
    rw [List.length_cons]
    omega
theorem GOk.len {kvs : List (List Key × PD)} {v : Nat → Nat → Int} (h : GOk kvs v) : kvs.length ≤ 289 := by
  obtain ⟨ns, e, nd, b⟩ := h.keys
  have l1 : kvs.length = ns.length := by
    have := congrArg List.length e
    rwa [List.length_map, List.length_map] at this
  have := nd_le nd fun p hp => allP_mem.mpr (b p hp)
  have e2 : allP.length = 289 := by decide +kernel
  omega
theorem GOk.dct : ∀ {rs : List T3} {kvs : List (List Key × PD)} {v : Nat → Nat → Int}, (∀ t ∈ rs, t.1 < 17 ∧ t.2.1 < 17) → GOk kvs v →
    ∃ w, GOk (rs.foldl (fun acc t => putP acc (keyR t.1 t.2.1) (.int t.2.2)) kvs) w
  | [], _, v, _, h => ⟨v, h⟩
  | t :: rs, kvs, v, hr, h => GOk.dct (rs := rs) (fun s hs => hr s (List.mem_cons_of_mem _ hs)) (h.put (hr t List.mem_cons_self).1 (hr t List.mem_cons_self).2 t.2.2)
theorem rD_lt {f : F2I} : ∀ t ∈ rD f 17, t.1 < 17 ∧ t.2.1 < 17 := fun t ht => by
  obtain ⟨a, b, _⟩ := rD_mem ht
  exact ⟨a, b⟩
theorem rD_at (f : F2I) : RowsAt (rD f 17) (cof f) := by
  refine ⟨fun t ht => (rD_mem ht).2.2.1, fun i j hi hj hv => rD_of (by omega) (by omega) fun z => hv (cof0 z)⟩
theorem GOk.start (f : F2I) : GOk (dctR (rD f 17)) (cof f) := by
  obtain ⟨w, h⟩ := GOk.dct (rs := rD f 17) rD_lt GOk.nil
  exact ⟨fun i j hi hj => dctR_get (rD_at f) (by omega) (by omega), h.keys⟩
def sumA2 (rs : List T3) (k l : Nat) : Int := (rs.map fun t => if k = t.1 ∧ l = t.2.1 then t.2.2 else 0).sum
theorem sumA2_app (a b : List T3) (k l : Nat) : sumA2 (a ++ b) k l = sumA2 a k l + sumA2 b k l := by unfold sumA2; rw [List.map_append, List.sum_append]
theorem sumA2_one (t : T3) (k l : Nat) : sumA2 [t] k l = if k = t.1 ∧ l = t.2.1 then t.2.2 else 0 := by unfold sumA2; simp
theorem sumA2_rI (f : F2I) (i k l : Nat) : ∀ n, sumA2 (rI f i n) k l = if k = i ∧ l < n then cof f k l else 0
  | 0 => by rw [if_neg (by omega)]; rfl
  | n + 1 => by
    rw [rI_succ, sumA2_app, sumA2_rI f i k l n]
    by_cases z : dd i n f = 0
    · rw [if_pos z]
      have : sumA2 [] k l = 0 := rfl
      rw [this, Int.add_zero]
      by_cases h : k = i ∧ l < n
      · rw [if_pos h, if_pos (by omega)]
      · rw [if_neg h]
        by_cases h2 : k = i ∧ l < n + 1
        · rw [if_pos h2, h2.1, show l = n by omega, cof0 z]
        · rw [if_neg h2]
    · rw [if_neg z, sumA2_one]
      by_cases h : k = i ∧ l < n
      · rw [if_pos h, if_neg (by show ¬ (k = i ∧ l = n); omega), if_pos (by omega), Int.add_zero]
      · rw [if_neg h]
        by_cases h2 : k = i ∧ l = n
        · rw [if_pos h2, if_pos (by omega), h2.1, h2.2, Int.zero_add]
        · rw [if_neg h2, if_neg (by omega)]; rfl
theorem sumA2_rD (f : F2I) (k l : Nat) (hl : l < 17) : ∀ n, sumA2 (rD f n) k l = if k < n then cof f k l else 0
  | 0 => by rw [if_neg (by omega)]; rfl
  | n + 1 => by
    rw [rD_succ, sumA2_app, sumA2_rD f k l hl n, sumA2_rI]
    by_cases h : k < n
    · rw [if_pos h, if_neg (by omega), if_pos (by omega), Int.add_zero]
    · rw [if_neg h]
      by_cases h2 : k = n
      · rw [if_pos (by omega), if_pos (by omega), Int.zero_add]
      · rw [if_neg (by omega), if_neg (by omega)]; rfl
abbrev subF (f g : FT) : F2I := fun u v => f.val u v - g.val u v
theorem cof_sub (f g : FT) (i j : Nat) : cof (subF f g) i j = cof (fun u v => f.val u v) i j - cof (fun u v => g.val u v) i j := by
  have e : (fun u v => f.val u v) = addF (subF f g) (fun u v => g.val u v) := by
    funext u v; show _ = f.val u v - g.val u v + g.val u v; omega
  have d1 : dd i j (fun u v => f.val u v) = dd i j (subF f g) + dd i j (fun u v => g.val u v) := by
    rw [← dd_add, ← e]
  have f0 := fac2_pos i j
  have p : cof (subF f g) i j * fac2 i j = dd i j (subF f g) := cof_mul (FT.sub f g).pol _ _
  have e2 : cof (subF f g) i j * fac2 i j = (cof (fun u v => f.val u v) i j - cof (fun u v => g.val u v) i j) * fac2 i j := by
    rw [Int.sub_mul, cof_mul f.pol, cof_mul g.pol, p, d1]; omega
  exact Int.eq_of_mul_eq_mul_right (by omega) e2
theorem dd0_cof {f g : FT} {i j : Nat} : dd i j (subF f g) = 0 ↔ cof (subF f g) i j = 0 := by
  refine ⟨cof0, fun h => ?_⟩
  have p : cof (subF f g) i j * fac2 i j = dd i j (subF f g) := cof_mul (FT.sub f g).pol _ _
  rw [← p, h, Int.zero_mul]
def upP (p : N2) : P2 := (((p.1 : Nat) : Int), ((p.2 : Nat) : Int))
theorem up_of : ∀ {qs : List P2} , (∀ q ∈ qs, ∃ p : N2, q = upP p) → ∃ ms : List N2, qs = ms.map upP
  | [], _ => ⟨[], rfl⟩
  | q :: qs, h => by
    obtain ⟨ms, e⟩ := up_of fun r hr => h r (List.mem_cons_of_mem _ hr)
    obtain ⟨p, e1⟩ := h q List.mem_cons_self
    exact ⟨p :: ms, by rw [e, e1, List.map_cons]⟩
theorem upP_inj {p q : N2} (h : upP p = upP q) : p = q := by
  have h1 := congrArg Prod.fst h
  have h2 := congrArg Prod.snd h
  have h1 : ((p.1 : Nat) : Int) = (q.1 : Nat) := h1
  have h2 : ((p.2 : Nat) : Int) = (q.2 : Nat) := h2
  exact Prod.ext (by omega) (by omega)
theorem gap_sorted {kvs : List (List Key × PD)} {v : Nat → Nat → Int} (h : GOk kvs v) : ∃ ps : List P2, kvs.map (·.1) = ps.map prK ∧ ∀ qs : List P2, qs.Perm ps → qs.Pairwise lexLe →
    ∃ ms : List N2, qs = ms.map upP ∧ (∀ p ∈ ms, (p.1 < 17 ∧ p.2 < 17) ∧ valP kvs (keyR p.1 p.2) = some (.int (v p.1 p.2))) ∧ ms.length ≤ 289 ∧ (ms.filter fun p => !decide (v p.1 p.2 = 0)) = allP.filter fun p => !decide (v p.1 p.2 = 0) := by
  obtain ⟨ns, e, nd, b⟩ := h.keys
  refine ⟨ns.map upP, by rw [e, List.map_map]; rfl, fun qs pm pw => ?_⟩
  obtain ⟨ms, rfl⟩ := up_of (qs := qs) fun q hq => by
    obtain ⟨p, _, e⟩ := List.mem_map.mp (pm.mem_iff.mp hq)
    exact ⟨p, e.symm⟩
  have mm : ∀ p, p ∈ ms ↔ p ∈ ns := fun p => by
    have := pm.mem_iff (a := upP p)
    constructor
    · intro hp
      obtain ⟨q, hq, eq⟩ := List.mem_map.mp (this.mp (List.mem_map.mpr ⟨p, hp, rfl⟩))
      rw [← upP_inj eq]; exact hq
    · intro hp
      obtain ⟨q, hq, eq⟩ := List.mem_map.mp (this.mpr (List.mem_map.mpr ⟨p, hp, rfl⟩))
      rw [← upP_inj eq]; exact hq
  have nd2 : ms.Nodup := by
    have n1 : (ns.map upP).Nodup := List.pairwise_map.mpr (nd.imp fun {a b} hab z => hab (upP_inj z))
    have n2 : (ms.map upP).Nodup := pm.nodup_iff.mpr n1
    exact (List.pairwise_map.mp n2).imp fun {a b} hab z => hab (by rw [z])
  have has : ∀ p : N2, p ∈ ns ↔ hasP kvs (keyR p.1 p.2) = true := fun p => by
    rw [hasP_key, e]
    constructor
    · intro hp; exact List.mem_map.mpr ⟨p, hp, rfl⟩
    · intro hp
      obtain ⟨q, hq, eq⟩ := List.mem_map.mp hp
      obtain ⟨a, b⟩ := keyR_inj eq
      rw [← show q = p from Prod.ext a b]; exact hq
  have ms_pw : ms.Pairwise pLt := by
    have w1 : ms.Pairwise fun a b => lexLe (upP a) (upP b) := List.pairwise_map.mp pw
    refine (w1.and nd2).imp fun {a b} hab => ?_
    obtain ⟨h1, h2⟩ := hab
    have h1 : ((a.1 : Nat) : Int) < (b.1 : Nat) ∨ (((a.1 : Nat) : Int) = (b.1 : Nat) ∧ ((a.2 : Nat) : Int) ≤ (b.2 : Nat)) := h1
    have h3 : ¬ (a.1 = b.1 ∧ a.2 = b.2) := fun z => h2 (Prod.ext z.1 z.2)
    show a.1 < b.1 ∨ (a.1 = b.1 ∧ a.2 < b.2)
    omega
  refine ⟨ms, rfl, fun p hp => ?_, ?_, ?_⟩
  · have hn := (mm p).mp hp
    obtain ⟨b1, b2⟩ := b p hn
    refine ⟨⟨b1, b2⟩, ?_⟩
    have h1 := (has p).mp hn
    rw [hasP_val] at h1
    have h2 := h.at_ p.1 p.2 b1 b2
    cases z : valP kvs (keyR p.1 p.2) with
    | none => rw [z] at h1; cases h1
    | some y => rw [z] at h2; rw [show y = _ from h2]
  · have := nd_le nd2 fun p hp => allP_mem.mpr (b p ((mm p).mp hp))
    have e2 : allP.length = 289 := by decide +kernel
    omega
  · refine slt_ext (ms_pw.filter _) (allP_pw.filter _) fun p => ?_
    rw [List.mem_filter, List.mem_filter, mm p, allP_mem]
    constructor
    · rintro ⟨hp, hv⟩
      exact ⟨b p hp, hv⟩
    · rintro ⟨⟨b1, b2⟩, hv⟩
      refine ⟨(has p).mpr ?_, hv⟩
      have hv : (!decide (v p.1 p.2 = 0)) = true := hv
      have h2 := h.at_ p.1 p.2 b1 b2
      rw [hasP_val]
      cases z : valP kvs (keyR p.1 p.2) with
      | none =>
        rw [z] at h2
        have h2 : PyData.int 0 = .int (v p.1 p.2) := h2
        have := PyData.int.inj h2
        rw [← this] at hv
        exact absurd hv (by decide)
      | some y => rfl
def S_gap : FSpec := ⟨fun args Q => ∃ (f g : FT) (m : Nat), args = [.d f.pd, .d g.pd] ∧ (f.lev ≤ 17 ∧ g.lev ≤ 17) ∧ f.ok m ∧ g.ok m ∧ 10 ≤ m ∧ Q (.d (.tuple ((rD (subF f g) 17).map rowP))) []⟩
abbrev N_gap : List Str := ["one", "other", "found", "i", "j", "c"]
def ir_gap (S_rows_of : FSpec) : TSt :=
  (sSeq (sAsg 2 (fDcT (iSeq (dFz (fCall S_rows_of (aCons (.e (dVar 0)) aNil)))) [3, 4, 5] (.tp [3, 4, 5]) cYes (kTupl (aCons (.e (dVar 3)) (aCons (.e (dVar 4)) aNil))) (dVar 5)))
    (sSeq (sFor (iSeq (dFz (fCall S_rows_of (aCons (.e (dVar 1)) aNil)))) (.tp [3, 4, 5]) (sDtK 2 (kTupl (aCons (.e (dVar 3)) (aCons (.e (dVar 4)) aNil))) (dBin bSub (.e (dGetT 2 (kTupl (aCons (.e (dVar 3)) (aCons (.e (dVar 4)) aNil))) (.e (dC (.int 0))))) (.s 5))))
    (sRet (fD (dBi bTuple (aCons (.e (dFz (fLc (iSeq (dSortT 2)) [3, 4] (.tp [3, 4]) (tVal (dBin cNe (.e (dIxT 2 (kTupl (aCons (.e (dVar 3)) (aCons (.e (dVar 4)) aNil))))) (.e (dC (.int 0))))) (dTup (aCons (.e (dVar 3)) (aCons (.e (dVar 4)) (aCons (.e (dIxT 2 (kTupl (aCons (.e (dVar 3)) (aCons (.e (dVar 4)) aNil))))) aNil))))))) aNil))))))
theorem sp_gap : ∀ args Q, S_gap.sp args Q → ir_gap (S_rows 17) (endsOf args Q) (rho0 N_gap args) := by
  rintro args Q ⟨f, g, m, rfl, ⟨l1, l2⟩, o1, o2, hm, q⟩
  have bigS : (1000 : Nat) < sizeLine := by rw [sizeLine_eq]; decide
  obtain ⟨F, hF⟩ : ∃ F : F2I, F = fun u v => f.val u v := ⟨_, rfl⟩
  obtain ⟨G, hG⟩ : ∃ G : F2I, G = fun u v => g.val u v := ⟨_, rfl⟩
  refine ⟨rfl, f, m, rfl, l1, o1, hm, ⟨rfl, rfl⟩, fun i acc ρ => acc = dctR ((rD F 17).take i) ∧ ρ = [some (.d f.pd), some (.d g.pd), none, none, none, none], ⟨rfl, rfl⟩, fun _ _ _ _ => trivial, ?_, ?_⟩
  · rintro i y acc ρ hy ⟨rfl, rfl⟩
    rw [← hF] at hy
    have hy : ((rD F 17).map rowP)[i]? = some y := hy
    rw [List.getElem?_map] at hy
    obtain ⟨t, ht, rfl⟩ := Option.map_eq_some_iff.mp hy
    refine ⟨rfl, fun _ => ⟨keyR t.1 t.2.1, rfl, ?_, ?_, rfl⟩, nofun⟩
    · have := dctR_len ((rD F 17).take i)
      have := rD_len F 17
      rw [List.length_take] at *
      omega
    · rw [List.take_add_one, ht, Option.toList_some, dctR_snoc]
  · rintro acc ρ ⟨ha, rfl⟩
    rw [← hF] at ha
    have ha : acc = dctR ((rD F 17).take ((rD F 17).map rowP).length) := ha
    rw [List.length_map, List.take_length] at ha
    subst ha
    refine ⟨rfl, g, m, rfl, l2, o2, hm, _, rfl, fun n ρ => ∃ (kvs : List (List Key × PD)) (s3 s4 s5 : Option PD), ρ = [some (.d f.pd), some (.d g.pd), some (.dt none kvs), s3.map Lc.d, s4.map Lc.d, s5.map Lc.d] ∧ GOk kvs fun k l => cof F k l - sumA2 ((rD G 17).take n) k l, ⟨_, none, none, none, rfl, ?_⟩, ?_, ?_⟩
    · have h := GOk.start F
      refine ⟨fun i j hi hj => ?_, h.keys⟩
      rw [h.at_ i j hi hj]
      show PyData.int _ = .int (cof F i j - sumA2 [] i j)
      have : sumA2 [] i j = 0 := rfl
      rw [this, Int.sub_zero]
    · rintro n y ρ hy ⟨kvs, s3, s4, s5, rfl, hk⟩
      rw [← hG] at hy
      have hy : ((rD G 17).map rowP)[n]? = some y := hy
      rw [List.getElem?_map] at hy
      obtain ⟨t, ht, rfl⟩ := Option.map_eq_some_iff.mp hy
      obtain ⟨t1, t2⟩ := rD_lt t (List.mem_of_getElem? ht)
      have z := hk.at_ t.1 t.2.1 t1 t2
      have hl := hk.len
      refine ⟨rfl, keyR t.1 t.2.1, rfl, ?_⟩
      show bSub ((valP kvs (keyR t.1 t.2.1)).getD (.int 0)) (.int t.2.2) _
      rw [z]
      refine ⟨keyR t.1 t.2.1, rfl, by omega, _, some (.int (t.1 : Nat)), some (.int (t.2.1 : Nat)), some (.int t.2.2), rfl, ?_⟩
      have h2 := hk.put t1 t2 (cof F t.1 t.2.1 - sumA2 ((rD G 17).take n) t.1 t.2.1 - t.2.2)
      refine ⟨fun i j hi hj => ?_, h2.keys⟩
      rw [h2.at_ i j hi hj, List.take_add_one, ht, Option.toList_some, sumA2_app, sumA2_one]
      by_cases e : i = t.1 ∧ j = t.2.1
      · rw [if_pos e, if_pos e, e.1, e.2]; congr 1; omega
      · rw [if_neg e, if_neg e, Int.add_zero]
    · rintro ρ ⟨kvs, s3, s4, s5, rfl, hk⟩
      rw [← hG] at hk
      have hk : GOk kvs fun k l => cof F k l - sumA2 ((rD G 17).take ((rD G 17).map rowP).length) k l := hk
      rw [List.length_map, List.take_length] at hk
      have hk : GOk kvs (cof (subF f g)) := by
        refine ⟨fun i j hi hj => ?_, hk.keys⟩
        rw [hk.at_ i j hi hj, sumA2_rD G i j hj 17, if_pos hi, cof_sub, hF, hG]
      obtain ⟨ps, hps, hs⟩ := gap_sorted hk
      refine ⟨ps, hps, fun qs pm pw => ?_⟩
      obtain ⟨ms, rfl, hms, hml, hfil⟩ := hs qs pm pw
      obtain ⟨v, hv⟩ : ∃ v, v = cof (subF f g) := ⟨_, rfl⟩
      rw [← hv] at hms hfil hk
      have lf : lcFree [some (.d f.pd), some (.d g.pd), some (.dt none kvs), s3.map Lc.d, s4.map Lc.d, s5.map Lc.d] [3, 4] = true := by cases s3 <;> cases s4 <;> rfl
      refine ⟨⟨lf, rfl⟩, fun i acc ρ => acc = (((ms.take i).filter fun p => !decide (v p.1 p.2 = 0)).map fun p => rowP (p.1, p.2, v p.1 p.2)) ∧ ρ = [some (.d f.pd), some (.d g.pd), some (.dt none kvs), none, none, s5.map Lc.d], ⟨rfl, rfl⟩, fun _ _ _ _ => trivial, ?_, ?_⟩
      · rintro i y acc ρ hy ⟨rfl, rfl⟩
        have hy : ((ms.map upP).map prI)[i]? = some y := hy
        rw [List.map_map, List.getElem?_map] at hy
        obtain ⟨p, hp, rfl⟩ := Option.map_eq_some_iff.mp hy
        obtain ⟨⟨b1, b2⟩, ev⟩ := hms p (List.mem_of_getElem? hp)
        refine ⟨rfl, keyR p.1 p.2, rfl, _, ev, fun h => ?_, fun h => ?_⟩
        · have h : (!decide (v p.1 p.2 = 0)) = true := h
          refine ⟨keyR p.1 p.2, rfl, _, ev, ?_, ?_, rfl⟩
          · have := List.length_filter_le (fun p : N2 => !decide (v p.1 p.2 = 0)) (ms.take i)
            rw [List.length_map]
            rw [List.length_take] at this
            omega
          · rw [List.take_add_one, hp, Option.toList_some, List.filter_append, List.map_append, List.filter_cons_of_pos (p := fun p : N2 => !decide (v p.1 p.2 = 0)) h]
            rfl
        · have h : (!decide (v p.1 p.2 = 0)) = false := h
          refine ⟨?_, rfl⟩
          rw [List.take_add_one, hp, Option.toList_some, List.filter_append, List.filter_cons_of_neg (p := fun p : N2 => !decide (v p.1 p.2 = 0)) (by rw [h]; exact Bool.false_ne_true), List.filter_nil, List.append_nil]
      · rintro acc ρ ⟨ha, rfl⟩
        rw [show (Wk.items ((ms.map upP).map prI)).list.length = ms.length by show ((ms.map upP).map prI).length = _; rw [List.length_map, List.length_map], List.take_length, hfil] at ha
        have e : acc = (rD (subF f g) 17).map rowP := by
          rw [ha, rD_all, List.map_map, hv]
          congr 1
          apply List.filter_congr
          intro p _
          congr 1
          exact decide_eq_decide.mpr dd0_cof.symm
        rw [e]
        exact q
end DL
namespace DL
open PySem L2 PyProof.Rows
section
variable {w : Wk} {ρ1 : En} {vs : List Nat} {pt : Pt} {c : TTd} {el : TD} {Q : Lc → En → Prop}
end
section
variable {w : Wk} {ρ1 : En} {vs : List Nat} {pt : Pt} {c : TTd} {el : TD} {Q : Lc → En → Prop} {α : Type}
end
section
variable {α : Type} {xs : List α} {g f : α → PD} {φ : α → Int} {w : Wk} {n : Nat} {y : PD} {z : α}
end
end DL
namespace DL
open PySem L2 PyProof.Rows
mutual
def sml (m : Nat) : PD → Bool
  | .int i => decide (i.natAbs < 2 ^ m)
  | .list xs => decide (xs.length ≤ 1000) && smlA m xs
  | .tuple xs => decide (xs.length ≤ 1000) && smlA m xs
  | .dict _ => false
  | .str s => decide (s.length ≤ 1000)
  | _ => true
def smlA (m : Nat) : List PD → Bool
  | [] => true
  | x :: r => sml m x && smlA m r
end
theorem smlA_all {m : Nat} : ∀ xs : List PD, smlA m xs = xs.all (sml m)
  | [] => rfl
  | x :: r => by rw [smlA, List.all_cons, smlA_all r]
theorem sml_plain {m : Nat} {v : PD} (h : sml m v = true) : plainD v = true := by
  cases v <;> first | rfl | (rw [sml] at h; cases h)
theorem sml_tup {m : Nat} {xs : List PD} (h : sml m (.tuple xs) = true) : xs.length ≤ 1000 ∧ ∀ x ∈ xs, sml m x = true := by
  rw [sml, Bool.and_eq_true, smlA_all, List.all_eq_true] at h
  exact ⟨of_decide_eq_true h.1, h.2⟩
theorem sml_int {m : Nat} {i : Int} (h : sml m (.int i) = true) : i.natAbs < 2 ^ m := by
  rw [sml] at h
  exact of_decide_eq_true h
def isI : PD → Bool
  | .int _ => true
  | _ => false
theorem isI_int {v : PD} (h : isI v = true) : ∃ i, v = .int i := by
  cases v <;> first | exact ⟨_, rfl⟩ | cases h
def S_isint8 : FSpec := ⟨fun args Q => ∃ v : PD, args = [.d v] ∧ plainD v = true ∧ Q (.d (.bool (isI v))) []⟩
abbrev N_is_integer : List Str := ["value"]
def ir_is_integer : TSt :=
  (sRet (fD (dAnd (dIsi "int" (.s 0)) (dNot (dIsi "bool" (.s 0))))))
theorem sp_isint8 : ∀ args Q, S_isint8.sp args Q → ir_is_integer (endsOf args Q) (rho0 N_is_integer args) := by
  rintro args Q ⟨v, rfl, hp, q⟩
  cases v with
  | int i => exact ⟨rfl, fun _ => ⟨rfl, q⟩, nofun⟩
  | bool b => exact ⟨rfl, fun _ => ⟨rfl, q⟩, nofun⟩
  | none => exact ⟨rfl, nofun, fun _ => q⟩
  | str s => exact ⟨rfl, nofun, fun _ => q⟩
  | list xs => exact ⟨rfl, nofun, fun _ => q⟩
  | tuple xs => exact ⟨rfl, nofun, fun _ => q⟩
  | dict es => cases hp
def tri3 (v : PD) : Option (Int × Int × Int) := match v with
  | .tuple [.int a, .int b, .int c] => some (a, b, c)
  | _ => none
def isTri (v : PD) : Bool := match v with
  | .tuple [.int a, .int b, .int _] => decide (0 ≤ a) && decide (a ≤ 16) && (decide (0 ≤ b) && decide (b ≤ 16))
  | _ => false
theorem isTri_some {v : PD} (h : isTri v = true) : ∃ t : T3, v = rowP t ∧ t.1 ≤ 16 ∧ t.2.1 ≤ 16 := by
  unfold isTri at h
  split at h
  · rename_i a b c
    simp only [Bool.and_eq_true, decide_eq_true_eq] at h
    obtain ⟨⟨h1, h2⟩, h3, h4⟩ := h
    refine ⟨(a.toNat, b.toNat, c), ?_, by show a.toNat ≤ 16; omega, by show b.toNat ≤ 16; omega⟩
    unfold rowP
    have e1 : ((a.toNat : Nat) : Int) = a := Int.toNat_of_nonneg h1
    have e2 : ((b.toNat : Nat) : Int) = b := Int.toNat_of_nonneg h3
    show PyData.tuple [.int a, .int b, .int c] = .tuple [.int ((a.toNat : Nat) : Int), .int ((b.toNat : Nat) : Int), .int c]
    rw [e1, e2]
  · cases h
theorem len_three {xs : List PD} (h : xs.length = 3) : ∃ a b c, xs = [a, b, c] := by
  match xs, h with
  | [a, b, c], _ => exact ⟨a, b, c, rfl⟩
def S_tri : FSpec := ⟨fun args Q => ∃ (v : PD) (m : Nat), args = [.d v, .d (.int 16)] ∧ sml m v = true ∧ Q (.d (.bool (isTri v))) []⟩
abbrev N_is_triple : List Str := ["value", "most", "one"]
def ir_is_triple (S_is_integer : FSpec) : TSt :=
  (sSeq (sIf (tOrD (tNotD (tVal (dIsi "tuple" (.s 0)))) (tOrD (tVal (dBin cNe (.e (dBi bLen (aCons (.s 0) aNil))) (.e (dC (.int 3))))) (tNotD (tVal (dBi bAll (aCons (.e (dFz (fLc (iOwn 0) [2] (.nm 2) cYes (dFz (fCall S_is_integer (aCons (.e (dVar 2)) aNil)))))) aNil)))))) (sRet (fD (dC (.bool false)))) sNext)
    (sRet (fD (dAnd (dChain (fun i j => decide (i ≤ j)) (fun i j => decide (i ≤ j)) (.e (dC (.int 0))) (.e (dBin bIx (.s 0) (.e (dC (.int 0))))) (.s 1)) (dChain (fun i j => decide (i ≤ j)) (fun i j => decide (i ≤ j)) (.e (dC (.int 0))) (.e (dBin bIx (.s 0) (.e (dC (.int 1))))) (.s 1))))))
theorem sp_tri : ∀ args Q, S_tri.sp args Q → ir_is_triple S_isint8 (endsOf args Q) (rho0 N_is_triple args) := by
  rintro args Q ⟨v, m, rfl, hv, q⟩
  have bigS : (1000 : Nat) < sizeLine := by rw [sizeLine_eq]; decide
  cases v with
  | tuple xs =>
    obtain ⟨hl, hx⟩ := sml_tup hv
    refine ⟨rfl, nofun, fun _ => ⟨fun h => ⟨fun _ => ?_, nofun⟩, fun h => ?_⟩⟩
    · have h : (!decide ((xs.length : Int) = 3)) = true := h
      have e : isTri (.tuple xs) = false := by
        unfold isTri
        split
        · rename_i e
          cases e
          simp at h
        · rfl
      rw [e] at q
      exact q
    · have h : (!decide ((xs.length : Int) = 3)) = false := h
      have h : ((xs.length : Nat) : Int) = 3 := by simpa using h
      obtain ⟨a, b, c, rfl⟩ := len_three (xs := xs) (by omega)
      refine ⟨⟨rfl, rfl⟩, fun i acc ρ => acc = (([a, b, c].take i).map fun x => PyData.bool (isI x)) ∧ ρ = [some (.d (.tuple [a, b, c])), some (.d (.int 16)), none], ⟨rfl, rfl⟩, fun _ _ _ _ => trivial, ?_, ?_⟩
      · rintro i y acc ρ hy ⟨rfl, rfl⟩
        have hy : [a, b, c][i]? = some y := hy
        have hm := List.mem_of_getElem? hy
        refine ⟨fun _ => ⟨rfl, y, rfl, sml_plain (hx y hm), ?_, ?_, rfl⟩, nofun⟩
        · rw [List.length_map, List.length_take]
          show min i 3 < _
          omega
        · rw [List.take_add_one, hy, Option.toList_some, List.map_append]
          rfl
      · rintro acc ρ ⟨rfl, rfl⟩
        have q : True → Q (.d (.bool (isTri (.tuple [a, b, c])))) [] := fun _ => q
        replace q := q trivial
        refine ⟨[isI a, isI b, isI c], rfl, fun h => ?_, fun h => ?_⟩
        · have h : (!([isI a, isI b, isI c].all id)) = true := h
          have e : isTri (.tuple [a, b, c]) = false := by
            unfold isTri
            split
            · rename_i e; cases e; simp [isI] at h
            · rfl
          rw [e] at q
          exact q
        · have h : (!([isI a, isI b, isI c].all id)) = false := h
          have h : isI a = true ∧ isI b = true ∧ isI c = true := by simpa using h
          obtain ⟨⟨a, rfl⟩, ⟨b, rfl⟩, c, rfl⟩ := And.intro (isI_int h.1) (And.intro (isI_int h.2.1) (isI_int h.2.2))
          have e : isTri (.tuple [.int a, .int b, .int c]) = (decide (0 ≤ a) && decide (a ≤ 16) && (decide (0 ≤ b) && decide (b ≤ 16))) := rfl
          rw [e] at q
          refine ⟨_, rfl, fun h1 => ?_, fun h1 => ?_⟩
          · have h1 : decide (0 ≤ a) = true := h1
            rw [h1] at q
            refine ⟨fun h2 => ⟨_, rfl, fun h3 => ?_, fun h3 => ?_⟩, fun h2 => ?_⟩
            · have h2 : decide (a ≤ 16) = true := h2
              have h3 : decide (0 ≤ b) = true := h3
              rw [h2, h3] at q
              exact q
            · have h2 : decide (a ≤ 16) = true := h2
              have h3 : decide (0 ≤ b) = false := h3
              rw [h2, h3] at q
              exact q
            · have h2 : decide (a ≤ 16) = false := h2
              rw [h2] at q
              exact q
          · have h1 : decide (0 ≤ a) = false := h1
            rw [h1] at q
            exact ⟨nofun, fun _ => q⟩
  | int i => exact ⟨rfl, fun _ => ⟨fun _ => q, nofun⟩, nofun⟩
  | bool b => exact ⟨rfl, fun _ => ⟨fun _ => q, nofun⟩, nofun⟩
  | none => exact ⟨rfl, fun _ => ⟨fun _ => q, nofun⟩, nofun⟩
  | str s => exact ⟨rfl, fun _ => ⟨fun _ => q, nofun⟩, nofun⟩
  | list xs => exact ⟨rfl, fun _ => ⟨fun _ => q, nofun⟩, nofun⟩
  | dict es => cases sml_plain hv
def lowAt (rs : List PD) (k : Nat) (a b : Int) : Bool := match rs[k]?.bind tri3 with
  | some (a', b', _) => decide (lexLe (a, b) (a', b'))
  | none => false
def badAt (rs : List PD) (k : Nat) : Bool := match rs[k]? with
  | some v => !isTri v || (match tri3 v with
    | some (a, b, c) => decide (c = 0) || (decide (0 < k) && lowAt rs (k - 1) a b)
    | none => false)
  | none => false
def fstBad (rs : List PD) : Option Nat := (List.range rs.length).find? (badAt rs)
theorem fst_bad {rs : List PD} {n : Nat} (hn : n < rs.length) (h : badAt rs n = true) (h2 : ∀ k, k < n → badAt rs k = false) : fstBad rs = some n := by
  unfold fstBad
  rw [List.find?_range_eq_some]
  exact ⟨h, List.mem_range.mpr hn, fun j hj => by rw [h2 j hj]; rfl⟩
theorem fst_fine {rs : List PD} (h2 : ∀ k, k < rs.length → badAt rs k = false) : fstBad rs = none := by
  unfold fstBad
  rw [List.find?_range_eq_none]
  exact fun j hj => by rw [h2 j hj]; rfl
theorem fine_tri {rs : List PD} {k : Nat} {v : PD} (h : badAt rs k = false) (e : rs[k]? = some v) : ∃ t : T3, v = rowP t ∧ t.1 ≤ 16 ∧ t.2.1 ≤ 16 := by
  unfold badAt at h
  rw [e] at h
  have h : (!isTri v || _) = false := h
  rw [Bool.or_eq_false_iff] at h
  exact isTri_some (by simpa using h.1)
theorem fine_rows : ∀ {rs : List PD}, (∀ v ∈ rs, ∃ t : T3, v = rowP t ∧ t.1 ≤ 16 ∧ t.2.1 ≤ 16) → ∃ ts : List T3, rs = ts.map rowP ∧ ∀ t ∈ ts, t.1 ≤ 16 ∧ t.2.1 ≤ 16
  | [], _ => ⟨[], rfl, fun _ h => by cases h⟩
  | v :: rs, h => by
    obtain ⟨t, rfl, ht⟩ := h v List.mem_cons_self
    obtain ⟨ts, rfl, hts⟩ := fine_rows (rs := rs) fun w hw => h w (List.mem_cons_of_mem _ hw)
    exact ⟨t :: ts, rfl, fun s hs => (List.mem_cons.mp hs).elim (fun e => e ▸ ht) (hts s)⟩
theorem eqv_row (s t : T3) : PyData.eqv (rowP s) (rowP t) = decide (s = t) := by
  unfold rowP
  simp only [PyData.eqv, PyData.eqvAll, Bool.and_true]
  obtain ⟨a, b, c⟩ := s
  obtain ⟨a', b', c'⟩ := t
  rw [Bool.eq_iff_iff]
  simp
  exact ⟨fun ⟨h1, h2, h3⟩ => ⟨by omega, by omega, h3⟩, fun ⟨h1, h2, h3⟩ => ⟨by omega, by omega, h3⟩⟩
theorem eqv_rows : ∀ as bs : List T3, PyData.eqvAll (as.map rowP) (bs.map rowP) = decide (as = bs)
  | [], [] => rfl
  | [], _ :: _ => rfl
  | _ :: _, [] => rfl
  | a :: as, b :: bs => by
    rw [List.map_cons, List.map_cons, PyData.eqvAll, eqv_row, eqv_rows as bs, Bool.eq_iff_iff]
    simp
def mulR (c : Nat) (ts : List T3) : List T3 := ts.map fun t => (t.1, t.2.1, t.2.2 * ((stp c t.1 t.2.1 : Nat) : Int))
abbrev erW (C : Addr) (w : Str) (n : Int) : Xd := (C, xdF ["word", "number"] [.str w, .int n])
structure FG (f g : FT) (m : Nat) : Prop where
  l1 : f.lev ≤ 17
  l2 : g.lev ≤ 17
  o1 : f.ok m
  o2 : g.ok m
  o3 : (FT.sub f g).ok m
  m0 : 10 ≤ m
  m1 : m ≤ 100000
def S_chkX (CN : Addr) : XSpec := ⟨fun args Q E => ∃ (f g : FT) (c m : Nat) (rows : List PD), args = [.d f.pd, .d g.pd, .d (.int c), .d (.tuple rows)] ∧ FG f g m ∧ 0 < c ∧ c < 2 ^ 110 ∧ sml m (.tuple rows) = true ∧
  (∀ n : Nat, fstBad rows = some n → E (erW CN "row" (n : Nat)) []) ∧ ∀ ts : List T3, rows = ts.map rowP → (∀ t ∈ ts, t.1 ≤ 16 ∧ t.2.1 ≤ 16) → fstBad rows = none → (mulR c ts = rD (subF f g) 17 → Q (.d .none) []) ∧ (mulR c ts ≠ rD (subF f g) 17 → E (erW CN "sum" (-1)) [])⟩
abbrev N_check_rows_e : List Str := ["one", "other", "clock", "rows", "at", "row", "i", "j", "a"]
def ir_check_rows_e (C_NoPaper : Addr) (S_is_triple : FSpec) (S_step_of : FSpec) (S_gap : FSpec) (u : Xd → En → Prop) : TSt :=
  (sSeq (sFor (iEnmT (dVar 3)) (.tp [4, 5]) (sIf (tOrD (tNotD (tVal (dFz (fCall S_is_triple (aCons (.e (dVar 5)) (aCons (.e (dC (.int 16))) aNil)))))) (tOrD (tVal (dBin cEq (.e (dBin bIx (.s 5) (.e (dC (.int 2))))) (.e (dC (.int 0))))) (tAndD (tVal (dBin cGt (.s 4) (.e (dC (.int 0))))) (tVal (dBin cLe2 (.e (dSl (.s 5) pNone (pSome (.e (dC (.int 2)))))) (.e (dSl (.e (dBin bIx (.s 3) (.e (dBin bSub (.s 4) (.e (dC (.int 1))))))) pNone (pSome (.e (dC (.int 2))))))))))) (sRaise C_NoPaper ["word", "number"] u (aCons (.e (dC (.str "row"))) (aCons (.e (dVar 4)) aNil))) sNext))
    (sIf (tVal (dBin cNe (.e (dBi bTuple (aCons (.e (dFz (fLc (iOwn 3) [6, 7, 8] (.tp [6, 7, 8]) cYes (dTup (aCons (.e (dVar 6)) (aCons (.e (dVar 7)) (aCons (.e (dBin bMulI (.s 8) (.e (dFz (fCall S_step_of (aCons (.e (dVar 2)) (aCons (.e (dVar 6)) (aCons (.e (dVar 7)) aNil)))))))) aNil))))))) aNil))) (.e (dFz (fCall S_gap (aCons (.e (dVar 0)) (aCons (.e (dVar 1)) aNil))))))) (sRaise C_NoPaper ["word", "number"] u (aCons (.e (dC (.str "sum"))) (aCons (.e (dNeg (.e (dC (.int 1))))) aNil))) sNext))
theorem sp_chkX (CN : Addr) : ∀ args Q E, (S_chkX CN).sp args Q E → ir_check_rows_e CN S_tri S_step S_gap (endsX args E) (endsOf args Q) (rho0 N_check_rows_e args) := by
  rintro args Q E ⟨f, g, c, m, rows, rfl, fg, c0, c1, hs, qe, qq⟩
  have bigS : (1000 : Nat) < sizeLine := by rw [sizeLine_eq]; decide
  obtain ⟨hl, hx⟩ := sml_tup hs
  refine ⟨_, rfl, fun n ρ => (∃ s4 s5, ρ = [some (.d f.pd), some (.d g.pd), some (.d (.int (c : Nat))), some (.d (.tuple rows)), s4, s5, none, none, none]) ∧ ∀ k, k < n → badAt rows k = false, ⟨⟨none, none, rfl⟩, fun k hk => absurd hk (Nat.not_lt_zero _)⟩, ?_, ?_⟩
  · rintro n y ρ hy ⟨⟨s4, s5, rfl⟩, hb⟩
    obtain ⟨v, hv, rfl⟩ := enumD_inv hy
    have hn := (List.getElem?_eq_some_iff.mp hv).1
    have hm := hx v (List.mem_of_getElem? hv)
    have bad : isTri v = false → badAt rows n = true := fun h => by unfold badAt; rw [hv]; show (!isTri v || _) = true; rw [h]; rfl
    refine ⟨rfl, rfl, v, m, rfl, hm, fun h => ?_, fun h => ?_⟩
    · have h : (!isTri v) = true := h
      exact ⟨fun _ => ⟨rfl, qe n (fst_bad hn (bad (by simpa using h)) hb)⟩, nofun⟩
    · have h : (!isTri v) = false := h
      have ht : isTri v = true := by simpa using h
      obtain ⟨t, rfl, t1, t2⟩ := isTri_some ht
      have bz : badAt rows n = (decide (t.2.2 = 0) || (decide (0 < n) && lowAt rows (n - 1) (t.1 : Nat) (t.2.1 : Nat))) := by
        unfold badAt; rw [hv]; show (!isTri (rowP t) || _) = _; rw [ht]; rfl
      refine ⟨.int t.2.2, rfl, fun h => ?_, fun h => ?_⟩
      · have h : decide (t.2.2 = 0) = true := h
        exact ⟨fun _ => ⟨rfl, qe n (fst_bad hn (by rw [bz, h]; rfl) hb)⟩, nofun⟩
      · have h0 : decide (t.2.2 = 0) = false := h
        rw [h0, Bool.false_or] at bz
        have next : badAt rows n = false → ∀ k, k < n + 1 → badAt rows k = false := fun z k hk => by
          rcases Nat.lt_or_ge k n with w | w
          · exact hb k w
          · rw [show k = n by omega]; exact z
        refine ⟨fun h => ?_, fun h => ⟨nofun, fun _ => ⟨⟨_, _, rfl⟩, next ?_⟩⟩⟩
        · have h : (0 : Int) < (n : Nat) := of_decide_eq_true h
          have hn0 : 0 < n := by omega
          have hk := List.getElem?_eq_getElem (l := rows) (i := n - 1) (by omega)
          obtain ⟨t', e', t1', t2'⟩ := fine_tri (hb (n - 1) (by omega)) hk
          have ez : ((n : Nat) : Int) - 1 = ((n - 1 : Nat) : Int) := by omega
          have ea : atI rows (((n : Nat) : Int) - 1) = some (rowP t') := by rw [ez]; exact atI_nat (hk.trans (by rw [e']))
          have el : lowAt rows (n - 1) (t.1 : Nat) (t.2.1 : Nat) = decide (lexLe ((t.1 : Nat), (t.2.1 : Nat)) ((t'.1 : Nat), (t'.2.1 : Nat))) := by
            unfold lowAt; rw [hk, e']; rfl
          rw [decide_eq_true hn0, Bool.true_and, el] at bz
          refine ⟨rowP t', ea, ((t.1 : Nat), (t.2.1 : Nat)), ((t'.1 : Nat), (t'.2.1 : Nat)), rfl, rfl, fun h => ?_, fun h => ?_⟩
          · exact ⟨rfl, qe n (fst_bad hn (by rw [bz]; exact h) hb)⟩
          · exact ⟨⟨_, _, rfl⟩, next (by rw [bz]; exact h)⟩
        · have h : ¬ (0 : Int) < (n : Nat) := of_decide_eq_false h
          have : ¬ 0 < n := by omega
          rw [bz, decide_eq_false this, Bool.false_and]
  · rintro ρ ⟨⟨s4, s5, rfl⟩, hb⟩
    have hb : ∀ k, k < (enumD rows).length → badAt rows k = false := hb
    rw [enumD_len] at hb
    obtain ⟨ts, rfl, hts⟩ := fine_rows (rs := rows) fun v hv => by
      obtain ⟨k, hk⟩ := List.mem_iff_getElem?.mp hv
      exact fine_tri (hb k (List.getElem?_eq_some_iff.mp hk).1) hk
    obtain ⟨q1, q2⟩ := qq ts rfl hts (fst_fine hb)
    rw [List.length_map] at hl
    refine ⟨⟨rfl, rfl⟩, fun i acc ρ => acc = (mulR c (ts.take i)).map rowP ∧ ρ = [some (.d f.pd), some (.d g.pd), some (.d (.int (c : Nat))), some (.d (.tuple (ts.map rowP))), s4, s5, none, none, none], ⟨rfl, rfl⟩, fun _ _ _ _ => trivial, ?_, ?_⟩
    · rintro i y acc ρ hy ⟨rfl, rfl⟩
      have hy : (ts.map rowP)[i]? = some y := hy
      rw [List.getElem?_map] at hy
      obtain ⟨t, ht, rfl⟩ := Option.map_eq_some_iff.mp hy
      have htm := List.mem_of_getElem? ht
      obtain ⟨t1, t2⟩ := hts t htm
      have sp := stp_le c t.1 t.2.1
      have hsm := hx (rowP t) (List.mem_map.mpr ⟨t, htm, rfl⟩)
      have hc := sml_int ((sml_tup hsm).2 (.int t.2.2) (by simp))
      refine ⟨rfl, fun _ => ⟨rfl, c, t.1, t.2.1, rfl, c0, c1, by omega, by omega, ?_, ?_, ?_, rfl⟩, nofun⟩
      · exact mulOk m 110 hc (by rw [Int.natAbs_natCast]; omega) (by have := fg.m1; omega) (by have := fg.m0; omega) (by decide)
      · unfold mulR
        rw [List.length_map, List.length_map, List.length_take]; omega
      · unfold mulR
        rw [List.take_add_one, ht, Option.toList_some, List.map_append, List.map_append]
        rfl
    · rintro acc ρ ⟨ha, rfl⟩
      have ha : acc = (mulR c (ts.take (ts.map rowP).length)).map rowP := ha
      rw [List.length_map, List.take_length] at ha
      subst ha
      have l1 := fg.l1
      have l2 := fg.l2
      refine ⟨rfl, f, g, m, rfl, ⟨by omega, by omega⟩, fg.o1, fg.o2, fg.m0, ?_⟩
      have sh : ∀ ts : List T3, shp (.tuple (ts.map rowP)) := fun ts => (Shp.tup (n := 1) fun x hx => by
        obtain ⟨t, _, rfl⟩ := List.mem_map.mp hx
        exact Shp.tup (n := 0) fun y hy => by
          rcases List.mem_cons.mp hy with rfl | hy
          · exact .int _
          · rcases List.mem_cons.mp hy with rfl | hy
            · exact .int _
            · rw [List.mem_singleton.mp hy]; exact .int _).shp
      have ev : PyData.eqv (.tuple ((mulR c ts).map rowP)) (.tuple ((rD (subF f g) 17).map rowP)) = decide (mulR c ts = rD (subF f g) 17) := by rw [PyData.eqv]; exact eqv_rows _ _
      refine ⟨sh _, sh _, fun h => ?_, fun h => ?_⟩
      · have h : (!PyData.eqv (.tuple ((mulR c ts).map rowP)) (.tuple ((rD (subF f g) 17).map rowP))) = true := h
        rw [ev] at h
        exact ⟨rfl, q2 (by simpa using h)⟩
      · have h : (!PyData.eqv (.tuple ((mulR c ts).map rowP)) (.tuple ((rD (subF f g) 17).map rowP))) = false := h
        rw [ev] at h
        exact q1 (by simpa using h)
inductive PShape where
  | al (rows : List PD)
  | pt (x y : Int)
  | no
def pshape (v : PD) : PShape := match v with
  | .tuple [.str w, .tuple rows] => if w = "alike" then .al rows else .no
  | .tuple [.str w, .int x, .int y] => if w = "parted" then .pt x y else .no
  | _ => .no
theorem pshape_al (rows : List PD) : pshape (.tuple [.str "alike", .tuple rows]) = .al rows := by
  show (if ("alike" : Str) = "alike" then PShape.al rows else .no) = _
  rw [if_pos rfl]
theorem pshape_pt (x y : Int) : pshape (.tuple [.str "parted", .int x, .int y]) = .pt x y := by
  show (if ("parted" : Str) = "parted" then PShape.pt x y else .no) = _
  rw [if_pos rfl]
theorem pshape_2 {w : Str} {b : PD} (h : ¬ (w = "alike" ∧ isTy "tuple" b = true)) : pshape (.tuple [.str w, b]) = .no := by
  unfold pshape
  split
  · rename_i e; cases e
    by_cases hw : w = "alike"
    · exact absurd ⟨hw, rfl⟩ h
    · rw [if_neg hw]
  · rename_i e; cases e
  · rfl
theorem pshape_3 {w : Str} {b c : PD} (h : ¬ (w = "parted" ∧ isI b = true ∧ isI c = true)) : pshape (.tuple [.str w, b, c]) = .no := by
  unfold pshape
  split
  · rename_i e; cases e
  · rename_i e; cases e
    by_cases hw : w = "parted"
    · exact absurd ⟨hw, rfl, rfl⟩ h
    · rw [if_neg hw]
  · rfl
def S_paperX (CN : Addr) : XSpec := ⟨fun args Q E => ∃ (f g : FT) (c m : Nat) (v : PD), args = [.d f.pd, .d g.pd, .d (.int c), .d v] ∧ FG f g m ∧ 0 < c ∧ c < 2 ^ 110 ∧ sml m v = true ∧
  (match pshape v with
  | .no => E (erW CN "shape" (-1)) []
  | .pt x y => ((f.val x y % (c : Int) = g.val x y % (c : Int)) → E (erW CN "same" (-1)) []) ∧ ((f.val x y % (c : Int) ≠ g.val x y % (c : Int)) → Q (.d (.bool true)) [])
  | .al rows => (∀ n : Nat, fstBad rows = some n → E (erW CN "row" (n : Nat)) []) ∧ ∀ ts : List T3, rows = ts.map rowP → (∀ t ∈ ts, t.1 ≤ 16 ∧ t.2.1 ≤ 16) → fstBad rows = none → (mulR c ts = rD (subF f g) 17 → Q (.d (.bool true)) []) ∧ (mulR c ts ≠ rD (subF f g) 17 → E (erW CN "sum" (-1)) []))⟩
abbrev N_is_paper_e : List Str := ["one", "other", "clock", "value"]
def ir_is_paper_e (C_NoPaper : Addr) (S_check_rows_e : XSpec) (S_is_integer : FSpec) (S_hour : FSpec) (u : Xd → En → Prop) : TSt :=
  (sSeq (sIf (tOrD (tNotD (tVal (dIsi "tuple" (.s 3)))) (tOrD (tVal (dBin (cInT true) (.e (dBi bLen (aCons (.s 3) aNil))) (.e (dTup (aCons (.e (dC (.int 2))) (aCons (.e (dC (.int 3))) aNil)))))) (tNotD (tVal (dIsi "str" (.e (dBin bIx (.s 3) (.e (dC (.int 0)))))))))) (sRaise C_NoPaper ["word", "number"] u (aCons (.e (dC (.str "shape"))) (aCons (.e (dNeg (.e (dC (.int 1))))) aNil))) sNext)
    (sSeq (sIf (tAndD (tVal (dBin cEq (.e (dBin bIx (.s 3) (.e (dC (.int 0))))) (.e (dC (.str "alike"))))) (tAndD (tVal (dBin cEq (.e (dBi bLen (aCons (.s 3) aNil))) (.e (dC (.int 2))))) (tVal (dIsi "tuple" (.e (dBin bIx (.s 3) (.e (dC (.int 1))))))))) (sSeq (sDrop (dFz (fCallX S_check_rows_e u (aCons (.e (dVar 0)) (aCons (.e (dVar 1)) (aCons (.e (dVar 2)) (aCons (.e (dBin bIx (.s 3) (.e (dC (.int 1))))) aNil)))))))
    (sRet (fD (dC (.bool true))))) sNext)
    (sSeq (sIf (tOrD (tVal (dBin cNe (.e (dBin bIx (.s 3) (.e (dC (.int 0))))) (.e (dC (.str "parted"))))) (tOrD (tVal (dBin cNe (.e (dBi bLen (aCons (.s 3) aNil))) (.e (dC (.int 3))))) (tOrD (tNotD (tVal (dFz (fCall S_is_integer (aCons (.e (dBin bIx (.s 3) (.e (dC (.int 1))))) aNil))))) (tNotD (tVal (dFz (fCall S_is_integer (aCons (.e (dBin bIx (.s 3) (.e (dC (.int 2))))) aNil)))))))) (sRaise C_NoPaper ["word", "number"] u (aCons (.e (dC (.str "shape"))) (aCons (.e (dNeg (.e (dC (.int 1))))) aNil))) sNext)
    (sSeq (sIf (tVal (dBin cEq (.e (dFz (fCall S_hour (aCons (.e (dVar 0)) (aCons (.e (dVar 2)) (aCons (.e (dBin bIx (.s 3) (.e (dC (.int 1))))) (aCons (.e (dBin bIx (.s 3) (.e (dC (.int 2))))) aNil))))))) (.e (dFz (fCall S_hour (aCons (.e (dVar 1)) (aCons (.e (dVar 2)) (aCons (.e (dBin bIx (.s 3) (.e (dC (.int 1))))) (aCons (.e (dBin bIx (.s 3) (.e (dC (.int 2))))) aNil))))))))) (sRaise C_NoPaper ["word", "number"] u (aCons (.e (dC (.str "same"))) (aCons (.e (dNeg (.e (dC (.int 1))))) aNil))) sNext)
    (sRet (fD (dC (.bool true))))))))
theorem sp_paperX (CN : Addr) : ∀ args Q E, (S_paperX CN).sp args Q E → ir_is_paper_e CN (S_chkX CN) S_isint8 (S_hour 17) (endsX args E) (endsOf args Q) (rho0 N_is_paper_e args) := by
  rintro args Q E ⟨f, g, c, m, v, rfl, fg, c0, c1, hs, q⟩
  have hp := sml_plain hs
  have dec23 : ∀ n : Nat, ([PyData.int 2, .int 3].any fun z => PyData.eqv z (.int (n : Nat))) = decide (n = 2 ∨ n = 3) := fun n => by
    rw [Bool.eq_iff_iff]
    simp [PyData.eqv]
    omega
  cases v with
  | tuple xs =>
    obtain ⟨hl, hx⟩ := sml_tup hs
    refine ⟨rfl, nofun, fun _ => ⟨⟨rfl, rfl⟩, _, rfl, ⟨rfl, rfl⟩, by decide, fun h => ?_, fun h => ?_⟩⟩
    · have h : (!([PyData.int 2, .int 3].any fun z => PyData.eqv z (.int (xs.length : Nat)))) = true := h
      rw [dec23] at h
      have h : ¬ (xs.length = 2 ∨ xs.length = 3) := by simpa using h
      have e : pshape (.tuple xs) = .no := by
        unfold pshape
        split
        · rename_i e; cases e; exact absurd (.inl rfl) h
        · rename_i e; cases e; exact absurd (.inr rfl) h
        · rfl
      rw [e] at q
      exact ⟨fun _ => ⟨rfl, q⟩, nofun⟩
    · have h : (!([PyData.int 2, .int 3].any fun z => PyData.eqv z (.int (xs.length : Nat)))) = false := h
      rw [dec23] at h
      have h : xs.length = 2 ∨ xs.length = 3 := by
        cases hd : decide (xs.length = 2 ∨ xs.length = 3) with
        | true => exact of_decide_eq_true hd
        | false => rw [hd] at h; cases h
      match xs, h, hx, q with
      | [], h, _, _ => simp at h
      | [_], h, _, _ => simp at h
      | _ :: _ :: _ :: _ :: _, h, _, _ => simp at h
      | [a, b], h, hx, q =>
        have hpl : ∀ z ∈ [a, b], plainD z = true := fun z hz => sml_plain (hx z hz)
        refine ⟨a, rfl, hpl a (by simp), fun h => ?_, fun h => ?_⟩
        · have hty : (!isTy "str" a) = true := h
          clear h
          have e : pshape (.tuple [a, b]) = .no := by
            unfold pshape
            split
            · rename_i e; cases e; exact Bool.noConfusion (show false = true from hty)
            · rename_i e; cases e
            · rfl
          rw [e] at q
          exact ⟨rfl, q⟩
        · have h : (!isTy "str" a) = false := h
          cases a with
          | str w =>
            have two : ∀ P : Prop, ((!decide (((2 : Nat) : Int) = 3)) = true → P) → P := fun P k => k rfl
            refine ⟨.str w, rfl, fun h => ⟨fun _ => ⟨b, rfl, hpl b (by simp), fun h2 => ?_, fun h2 => ?_⟩, nofun⟩, fun h => ⟨nofun, fun _ => ?_⟩⟩
            · -- alike, rows
              have hw : w = "alike" := of_decide_eq_true h
              subst hw
              cases b with
              | tuple rows =>
                have e : pshape (.tuple [.str "alike", .tuple rows]) = .al rows := pshape_al rows
                rw [e] at q
                refine ⟨.tuple rows, rfl, rfl, f, g, c, m, rows, rfl, fg, c0, c1, hx _ (by simp), q.1, fun ts e1 e2 e3 => ?_⟩
                exact q.2 ts e1 e2 e3
              | _ => exact Bool.noConfusion (show false = true from h2)
            · have hw : w = "alike" := of_decide_eq_true h
              subst hw
              have e : pshape (.tuple [.str "alike", b]) = .no := pshape_2 fun z => by have := z.2; rw [show isTy "tuple" b = false from h2] at this; cases this
              rw [e] at q
              exact ⟨.str "alike", rfl, fun _ => ⟨fun _ => ⟨rfl, q⟩, nofun⟩, nofun⟩
            · have hw : ¬ w = "alike" := of_decide_eq_false h
              have e : pshape (.tuple [.str w, b]) = .no := pshape_2 fun z => hw z.1
              rw [e] at q
              refine ⟨.str w, rfl, fun _ => ⟨fun _ => ⟨rfl, q⟩, nofun⟩, fun _ => ⟨fun _ => ⟨fun _ => ⟨rfl, q⟩, nofun⟩, nofun⟩⟩
          | _ => cases h
      | [a, b, c2], h, hx, q =>
        have hpl : ∀ z ∈ [a, b, c2], plainD z = true := fun z hz => sml_plain (hx z hz)
        refine ⟨a, rfl, hpl a (by simp), fun h => ?_, fun h => ?_⟩
        · have hty : (!isTy "str" a) = true := h
          clear h
          have e : pshape (.tuple [a, b, c2]) = .no := by
            unfold pshape
            split
            · rename_i e; cases e
            · rename_i e; cases e; exact Bool.noConfusion (show false = true from hty)
            · rfl
          rw [e] at q
          exact ⟨rfl, q⟩
        · have h : (!isTy "str" a) = false := h
          cases a with
          | str w =>
            have third : ∀ P1 P2 : Prop, (w = "parted" → P2) → (w ≠ "parted" → P1) → brB (!decide (w = "parted")) P1 P2 := fun P1 P2 k1 k2 => ⟨fun h => k2 (by simpa using h), fun h => k1 (by simpa using h)⟩
            have rest : brB (!decide (w = "parted")) (E (erW CN "shape" (-1)) []) (w = "parted") := third _ _ (fun h => h) fun h => by
              rw [pshape_3 fun z => h z.1] at q; exact q
            refine ⟨.str w, rfl, fun h => ⟨nofun, fun _ => ⟨nofun, fun _ => ⟨.str w, rfl, fun h3 => ⟨fun _ => ⟨rfl, rest.1 h3⟩, nofun⟩, fun h3 => ?_⟩⟩⟩, fun h => ⟨nofun, fun _ => ⟨.str w, rfl, fun h3 => ⟨fun _ => ⟨rfl, rest.1 h3⟩, nofun⟩, fun h3 => ?_⟩⟩⟩
            · have h1 : w = "alike" := of_decide_eq_true h
              have h2 := rest.2 h3
              rw [h1] at h2
              exact absurd h2 (by decide)
            · have hw := rest.2 h3
              subst hw
              refine ⟨nofun, fun _ => ⟨b, rfl, rfl, b, rfl, hpl b (by simp), fun h4 => ?_, fun h4 => ?_⟩⟩
              · have h4 : (!isI b) = true := h4
                have e := pshape_3 (w := "parted") (b := b) (c := c2) fun z => by rw [z.2.1] at h4; cases h4
                rw [e] at q
                exact ⟨fun _ => ⟨rfl, q⟩, nofun⟩
              · have h4 : (!isI b) = false := h4
                refine ⟨c2, rfl, rfl, c2, rfl, hpl c2 (by simp), fun h5 => ?_, fun h5 => ?_⟩
                · have h5 : (!isI c2) = true := h5
                  have e := pshape_3 (w := "parted") (b := b) (c := c2) fun z => by rw [z.2.2] at h5; cases h5
                  rw [e] at q
                  exact ⟨rfl, q⟩
                · have h5 : (!isI c2) = false := h5
                  obtain ⟨x, rfl⟩ := isI_int (v := b) (by simpa using h4)
                  obtain ⟨y, rfl⟩ := isI_int (v := c2) (by simpa using h5)
                  rw [pshape_pt] at q
                  have hx1 := sml_int (hx (.int x) (by simp))
                  have hy1 := sml_int (hx (.int y) (by simp))
                  have l1 := fg.l1
                  have l2 := fg.l2
                  refine ⟨.int x, rfl, .int y, rfl, rfl, f, (c : Nat), x, y, m, rfl, by omega, fg.o1, hx1, hy1, by omega, .int x, rfl, .int y, rfl, rfl, g, (c : Nat), x, y, m, rfl, by omega, fg.o2, hx1, hy1, by omega, fun h => ?_, fun h => ?_⟩
                  · exact ⟨rfl, q.1 (of_decide_eq_true h)⟩
                  · exact q.2 (of_decide_eq_false h)
          | _ => cases h
  | int i => exact ⟨rfl, fun _ => ⟨fun _ => ⟨rfl, q⟩, nofun⟩, nofun⟩
  | bool b => exact ⟨rfl, fun _ => ⟨fun _ => ⟨rfl, q⟩, nofun⟩, nofun⟩
  | none => exact ⟨rfl, fun _ => ⟨fun _ => ⟨rfl, q⟩, nofun⟩, nofun⟩
  | str s => exact ⟨rfl, fun _ => ⟨fun _ => ⟨rfl, q⟩, nofun⟩, nofun⟩
  | list xs => exact ⟨rfl, fun _ => ⟨fun _ => ⟨rfl, q⟩, nofun⟩, nofun⟩
  | dict es => cases hp
end DL
namespace DL
open PySem L2 PyProof.Rows
def sumXY (R : List T3) : F2I := fun x y => (R.map fun t => t.2.2 * fallI x t.1 * fallI y t.2.1).sum
theorem dd_grid {f g : F2I} {i j : Nat} (h : ∀ a b : Nat, a ≤ i → b ≤ j → f (a : Nat) (b : Nat) = g (a : Nat) (b : Nat)) : dd i j f = dd i j g := by
  have e : f = addF (fun x y => f x y - g x y) g := by funext x y; show f x y = f x y - g x y + g x y; omega
  have z : dd i j (fun x y => f x y - g x y) = 0 := Int.zero_dvd.mp (dd_dv2 fun a b ha hb => by rw [h a b ha hb, Int.sub_self]; exact Int.dvd_refl 0)
  have e2 : dd i j f = dd i j (addF (fun x y => f x y - g x y) g) := by rw [← e]
  rw [e2, dd_add, z, Int.zero_add]
theorem sumA2_cons (t : T3) (R : List T3) (k l : Nat) : sumA2 (t :: R) k l = (if k = t.1 ∧ l = t.2.1 then t.2.2 else 0) + sumA2 R k l := by
  unfold sumA2; rw [List.map_cons, List.sum_cons]
theorem dd_sumXY (k l : Nat) : ∀ R : List T3, dd k l (sumXY R) = sumA2 R k l * fac2 k l
  | [] => by
    have z : dd k l (sumXY []) = 0 := Int.zero_dvd.mp (dd_dv2 fun a b _ _ => Int.dvd_refl 0)
    rw [z]; show 0 = 0 * _; rw [Int.zero_mul]
  | t :: R => by
    have e : sumXY (t :: R) = addF (trm t.2.2 t.1 t.2.1) (sumXY R) := by
      funext x y
      show ((t :: R).map _).sum = t.2.2 * fallI x t.1 * fallI y t.2.1 + (R.map _).sum
      rw [List.map_cons, List.sum_cons]
    rw [e, dd_add, dd_trm, dd_sumXY k l R, sumA2_cons]
    by_cases hk : k = t.1 ∧ l = t.2.1
    · rw [if_pos hk, if_pos hk, Int.add_mul, hk.1, hk.2]; rfl
    · rw [if_neg hk, if_neg hk, Int.zero_add, Int.zero_add]
abbrev key2 (t : T3) : N2 := (t.1, t.2.1)
theorem sumA2_no {R : List T3} {k l : Nat} (h : ∀ t ∈ R, key2 t ≠ (k, l)) : sumA2 R k l = 0 := by
  induction R with
  | nil => rfl
  | cons t R ih =>
    rw [sumA2_cons, ih fun s hs => h s (List.mem_cons_of_mem _ hs), if_neg fun z => h t List.mem_cons_self (Prod.ext z.1.symm z.2.symm)]
    rfl
theorem pLt_irr (p : N2) : ¬ pLt p p := fun z => by unfold pLt at z; omega
theorem sumA2_mem {R : List T3} (asc : (R.map key2).Pairwise pLt) {t : T3} (ht : t ∈ R) : sumA2 R t.1 t.2.1 = t.2.2 := by
  induction R with
  | nil => cases ht
  | cons s R ih =>
    rw [List.map_cons] at asc
    obtain ⟨a1, a2⟩ := List.pairwise_cons.mp asc
    rw [sumA2_cons]
    rcases List.mem_cons.mp ht with rfl | ht
    · rw [if_pos ⟨rfl, rfl⟩, sumA2_no fun u hu z => ?_, Int.add_zero]
      have := a1 _ (List.mem_map.mpr ⟨u, hu, rfl⟩)
      rw [z] at this
      exact pLt_irr _ this
    · rw [ih a2 ht, if_neg fun z => ?_, Int.zero_add]
      have := a1 _ (List.mem_map.mpr ⟨t, ht, rfl⟩)
      rw [show key2 t = key2 s from Prod.ext z.1 z.2] at this
      exact pLt_irr _ this
theorem rows_unique {R : List T3} {h : F2I} (asc : (R.map key2).Pairwise pLt) (nz : ∀ t ∈ R, t.2.2 ≠ 0) (lt : ∀ t ∈ R, t.1 < 17 ∧ t.2.1 < 17) (e : ∀ k l, k < 17 → l < 17 → cof h k l = sumA2 R k l) (dz : ∀ k l, dd k l h = 0 ↔ cof h k l = 0) : R = rD h 17 := by
  have kk : R.map key2 = allP.filter fun p => !decide (dd p.1 p.2 h = 0) := by
    refine slt_ext asc (allP_pw.filter _) fun p => ?_
    rw [List.mem_filter, allP_mem]
    constructor
    · intro hp
      obtain ⟨t, ht, rfl⟩ := List.mem_map.mp hp
      obtain ⟨b1, b2⟩ := lt t ht
      refine ⟨⟨b1, b2⟩, ?_⟩
      have : cof h t.1 t.2.1 ≠ 0 := by rw [e _ _ b1 b2, sumA2_mem asc ht]; exact nz t ht
      have : ¬ dd t.1 t.2.1 h = 0 := fun z => this ((dz _ _).mp z)
      simpa using this
    · rintro ⟨⟨b1, b2⟩, hv⟩
      have hv : ¬ dd p.1 p.2 h = 0 := by simpa using hv
      have hc : sumA2 R p.1 p.2 ≠ 0 := fun z => hv ((dz _ _).mpr (by rw [e _ _ b1 b2, z]))
      refine Classical.byContradiction fun no => hc (sumA2_no fun t ht z => no ?_)
      exact List.mem_map.mpr ⟨t, ht, z⟩
  rw [rD_all, ← kk, List.map_map]
  have : R.map (fun t => t) = R.map ((fun p : N2 => (p.1, p.2, cof h p.1 p.2)) ∘ key2) := by
    apply List.map_congr_left
    intro t ht
    obtain ⟨b1, b2⟩ := lt t ht
    show t = (t.1, t.2.1, cof h t.1 t.2.1)
    rw [e _ _ b1 b2, sumA2_mem asc ht]
  rw [List.map_id'] at this
  exact this
theorem rD_tells {d : Nat} {h : F2I} (p : Pol d h) (hd : d ≤ 16) (x y : Int) : sumXY (rD h 17) x y = h x y := by
  have e := rD_sum h (fun i j => fallI x i * fallI y j) 17
  have w := p.whole (N := 17) (by omega) x y
  rw [w]
  have e2 : sumXY (rD h 17) x y = ((rD h 17).map fun t => t.2.2 * (fallI x t.1 * fallI y t.2.1)).sum := by
    unfold sumXY; congr 1; apply List.map_congr_left; intro t _; rw [Int.mul_assoc]
  rw [e2, e]
  exact sumN_congr fun i _ => sumN_congr fun j _ => (Int.mul_assoc _ _ _).symm
theorem rows_iff {d : Nat} {h : F2I} (p : Pol d h) (hd : d ≤ 16) {R : List T3} (asc : (R.map key2).Pairwise pLt) (nz : ∀ t ∈ R, t.2.2 ≠ 0) (lt : ∀ t ∈ R, t.1 < 17 ∧ t.2.1 < 17) :
    (∀ x y : Nat, x < 17 → y < 17 → sumXY R (x : Nat) (y : Nat) = h (x : Nat) (y : Nat)) ↔ R = rD h 17 := by
  constructor
  · intro g
    refine rows_unique asc nz lt (fun k l hk hl => ?_) fun k l => ⟨cof0, fun z => by rw [← cof_mul p k l, z, Int.zero_mul]⟩
    have e1 : dd k l h = sumA2 R k l * fac2 k l := by
      rw [← dd_sumXY]
      exact dd_grid fun a b ha hb => (g a b (by omega) (by omega)).symm
    unfold cof
    rw [e1]
    exact Int.mul_ediv_cancel _ (by have := fac2_pos k l; omega)
  · rintro rfl x y _ _
    exact rD_tells p hd _ _
theorem pLt_tr {p q r : N2} (a : pLt p q) (b : pLt q r) : pLt p r := by unfold pLt at *; omega
theorem asc8 {ts : List T3} (h : ∀ k, 0 < k → k < ts.length → pLt (key2 (ts.getD (k - 1) (0, 0, 0))) (key2 (ts.getD k (0, 0, 0)))) : (ts.map key2).Pairwise pLt := by
  rw [List.pairwise_map, List.pairwise_iff_getElem]
  intro i j hi hj hij
  have gen : ∀ d i, i + d + 1 < ts.length → pLt (key2 (ts.getD i (0, 0, 0))) (key2 (ts.getD (i + d + 1) (0, 0, 0))) := by
    intro d
    induction d with
    | zero => intro i hi; exact h (i + 1) (by omega) hi
    | succ d ih => intro i hi; exact pLt_tr (ih i (by omega)) (h (i + (d + 1) + 1) (by omega) hi)
  have := gen (j - i - 1) i (by omega)
  rw [show i + (j - i - 1) + 1 = j by omega] at this
  rw [List.getD_eq_getElem?_getD, List.getD_eq_getElem?_getD, List.getElem?_eq_getElem hi, List.getElem?_eq_getElem hj] at this
  exact this
theorem fstBad_none {ts : List T3} (h : fstBad (ts.map rowP) = none) : (ts.map key2).Pairwise pLt ∧ ∀ t ∈ ts, t.2.2 ≠ 0 := by
  unfold fstBad at h
  rw [List.find?_range_eq_none, List.length_map] at h
  have hb : ∀ k t, ts[k]? = some t → t.2.2 ≠ 0 ∧ (0 < k → ∀ t', ts[k - 1]? = some t' → pLt (key2 t') (key2 t)) := fun k t e => by
    have hk := (List.getElem?_eq_some_iff.mp e).1
    have := h k hk
    have this : badAt (ts.map rowP) k = false := by simpa using this
    unfold badAt at this
    rw [List.getElem?_map, e] at this
    have this : (!isTri (rowP t) || (decide (t.2.2 = 0) || (decide (0 < k) && lowAt (ts.map rowP) (k - 1) (t.1 : Nat) (t.2.1 : Nat)))) = false := this
    rw [Bool.or_eq_false_iff, Bool.or_eq_false_iff] at this
    refine ⟨of_decide_eq_false this.2.1, fun h0 t' e' => ?_⟩
    have z := this.2.2
    rw [decide_eq_true h0, Bool.true_and] at z
    unfold lowAt at z
    rw [List.getElem?_map, e'] at z
    have z : decide (lexLe ((t.1 : Nat), (t.2.1 : Nat)) ((t'.1 : Nat), (t'.2.1 : Nat))) = false := z
    have z := of_decide_eq_false z
    unfold lexLe at z
    show t'.1 < t.1 ∨ (t'.1 = t.1 ∧ t'.2.1 < t.2.1)
    have z : ¬ (((t.1 : Nat) : Int) < ((t'.1 : Nat) : Int) ∨ (((t.1 : Nat) : Int) = ((t'.1 : Nat) : Int) ∧ ((t.2.1 : Nat) : Int) ≤ ((t'.2.1 : Nat) : Int))) := z
    omega
  refine ⟨asc8 fun k h0 hk => ?_, fun t ht => ?_⟩
  · rw [List.getD_eq_getElem?_getD, List.getD_eq_getElem?_getD, List.getElem?_eq_getElem hk, List.getElem?_eq_getElem (show k - 1 < ts.length by omega)]
    exact (hb k _ (List.getElem?_eq_getElem hk)).2 h0 _ (List.getElem?_eq_getElem (show k - 1 < ts.length by omega))
  · obtain ⟨k, hk⟩ := List.mem_iff_getElem?.mp ht
    exact (hb k t hk).1
def divR (c : Nat) (R : List T3) : List T3 := R.map fun t => (t.1, t.2.1, t.2.2 / ((stp c t.1 t.2.1 : Nat) : Int))
def S_paper : FSpec := ⟨fun args Q => ∃ (f g : FT) (c m : Nat), args = [.d f.pd, .d g.pd, .d (.int c)] ∧ (f.lev ≤ 17 ∧ g.lev ≤ 17) ∧ f.ok m ∧ g.ok m ∧ 10 ≤ m ∧ 0 < c ∧ c < 2 ^ 110 ∧
  (partD f g c = .none → Q (.d (.tuple [.str "alike", .tuple ((divR c (rD (subF f g) 17)).map rowP)])) []) ∧ (∀ x y : Int, partD f g c = .tuple [.int x, .int y] → Q (.d (.tuple [.str "parted", .int x, .int y])) [])⟩
theorem part_two8 (f g : FT) (c : Int) : partD f g c = .none ∨ ∃ x y : Int, partD f g c = .tuple [.int x, .int y] := by
  unfold partD
  split
  · exact .inl rfl
  · exact .inr ⟨_, _, rfl⟩
abbrev N_paper : List Str := ["one", "other", "clock", "pair", "i", "j", "c"]
def ir_paper (S_parted : FSpec) (S_gap : FSpec) (S_step_of : FSpec) : TSt :=
  (sSeq (sAsg 3 (fCall S_parted (aCons (.e (dVar 0)) (aCons (.e (dVar 1)) (aCons (.e (dVar 2)) aNil)))))
    (sSeq (sIf (tVal (dBin cNotN (.s 3) (.e (dC (.none))))) (sRet (fD (dBin bAdd (.e (dTup (aCons (.e (dC (.str "parted"))) aNil))) (.s 3)))) sNext)
    (sRet (fD (dTup (aCons (.e (dC (.str "alike"))) (aCons (.e (dBi bTuple (aCons (.e (dFz (fLc (iSeq (dFz (fCall S_gap (aCons (.e (dVar 0)) (aCons (.e (dVar 1)) aNil))))) [4, 5, 6] (.tp [4, 5, 6]) cYes (dTup (aCons (.e (dVar 4)) (aCons (.e (dVar 5)) (aCons (.e (dBin bFdiv (.s 6) (.e (dFz (fCall S_step_of (aCons (.e (dVar 2)) (aCons (.e (dVar 4)) (aCons (.e (dVar 5)) aNil)))))))) aNil))))))) aNil))) aNil)))))))
theorem sp_paper : ∀ args Q, S_paper.sp args Q → ir_paper S_parted S_gap S_step (endsOf args Q) (rho0 N_paper args) := by
  rintro args Q ⟨f, g, c, m, rfl, ⟨l1, l2⟩, o1, o2, hm, c0, c1, q1, q2⟩
  have bigS : (1000 : Nat) < sizeLine := by rw [sizeLine_eq]; decide
  refine ⟨rfl, f, g, c, m, rfl, ⟨l1, l2⟩, o1, o2, hm, c0, ?_⟩
  rcases part_two8 f g (c : Nat) with hn | ⟨x, y, hp⟩
  rotate_left
  · rw [hp]
    exact ⟨rfl, fun _ => ⟨by simp, by show 1 + 2 ≤ _; omega, q2 x y hp⟩, nofun⟩
  rw [hn]
  obtain ⟨R, hR⟩ : ∃ R, R = rD (subF f g) 17 := ⟨_, rfl⟩
  have q := q1 hn
  rw [← hR] at q
  refine ⟨rfl, nofun, fun _ => ⟨rfl, f, g, m, rfl, ⟨l1, l2⟩, o1, o2, hm, ⟨rfl, rfl⟩, fun i acc ρ => acc = (divR c (R.take i)).map rowP ∧ ρ = [some (.d f.pd), some (.d g.pd), some (.d (.int (c : Nat))), some (.d .none), none, none, none], ⟨rfl, rfl⟩, fun _ _ _ _ => trivial, ?_, ?_⟩⟩
  · rintro i y acc ρ hy ⟨rfl, rfl⟩
    rw [← hR] at hy
    have hy : (R.map rowP)[i]? = some y := hy
    rw [List.getElem?_map] at hy
    obtain ⟨t, ht, rfl⟩ := Option.map_eq_some_iff.mp hy
    have tm := List.mem_of_getElem? ht
    rw [hR] at tm
    obtain ⟨t1, t2, _⟩ := rD_mem tm
    have sp := stp_pos (i := t.1) (j := t.2.1) c0
    have sl := stp_le c t.1 t.2.1
    have lr := rD_len (subF f g) 17
    rw [← hR] at lr
    refine ⟨rfl, fun _ => ⟨rfl, c, t.1, t.2.1, rfl, c0, c1, by omega, by omega, ⟨by omega, Nat.lt_trans (log2_const (i := ((stp c t.1 t.2.1 : Nat) : Int)) (k := 110) (by rw [Int.natAbs_natCast]; omega)) (by decide)⟩, ?_, ?_, rfl⟩, nofun⟩
    · unfold divR
      rw [List.length_map, List.length_map, List.length_take]; omega
    · unfold divR
      rw [List.take_add_one, ht, Option.toList_some, List.map_append, List.map_append]
      rfl
  · rintro acc ρ ⟨ha, rfl⟩
    rw [← hR] at ha
    have ha : acc = (divR c (R.take (R.map rowP).length)).map rowP := ha
    rw [List.length_map, List.take_length] at ha
    rw [ha]
    exact q
end DL
namespace DL
open PySem L2 PyProof.Rows
abbrev N_law_is_whole_93bd : List Str := ["value"]
def ir_law_is_whole_93bd : TSt :=
  (sRet (fD (dAnd (dIsi "int" (.s 0)) (dNot (dIsi "bool" (.s 0))))))
theorem sp_whole8 : ∀ args Q, S_isint8.sp args Q → ir_law_is_whole_93bd (endsOf args Q) (rho0 N_law_is_whole_93bd args) := by
  rintro args Q ⟨v, rfl, hp, q⟩
  cases v with
  | int i => exact ⟨rfl, fun _ => ⟨rfl, q⟩, nofun⟩
  | bool b => exact ⟨rfl, fun _ => ⟨rfl, q⟩, nofun⟩
  | none => exact ⟨rfl, nofun, fun _ => q⟩
  | str s => exact ⟨rfl, nofun, fun _ => q⟩
  | list xs => exact ⟨rfl, nofun, fun _ => q⟩
  | tuple xs => exact ⟨rfl, nofun, fun _ => q⟩
  | dict es => cases hp
def thr (v : PD) : Int := match v with
  | .tuple [_, _, .int c] => c
  | _ => 0
def isEnt (v : PD) : Bool := isTri v && !decide (thr v = 0)
def S_entry : FSpec := ⟨fun args Q => ∃ (v : PD) (m : Nat), args = [.d v] ∧ sml m v = true ∧ Q (.d (.bool (isEnt v))) []⟩
theorem no_three {xs : List PD} (h : ¬ xs.length = 3) : isTri (.tuple xs) = false := by
  unfold isTri
  split
  · rename_i e; cases e; exact absurd rfl h
  · rfl
theorem three_odd {a b c : PD} (h : ¬ (isI a = true ∧ isI b = true ∧ isI c = true)) : isTri (.tuple [a, b, c]) = false := by
  unfold isTri
  split
  · rename_i e; cases e; exact absurd ⟨rfl, rfl, rfl⟩ h
  · rfl
abbrev N_law_is_entry_6be6 : List Str := ["value", "one"]
def ir_law_is_entry_6be6 (S_law_is_whole_93bd : FSpec) : TSt :=
  (sSeq (sIf (tOrD (tNotD (tVal (dIsi "tuple" (.s 0)))) (tOrD (tVal (dBin cNe (.e (dBi bLen (aCons (.s 0) aNil))) (.e (dC (.int 3))))) (tVal (dBin cNe (.e (dFz (fLc (iOwn 0) [1] (.nm 1) (tNotD (tVal (dFz (fCall S_law_is_whole_93bd (aCons (.e (dVar 1)) aNil))))) (dC (.int 1))))) (.e (dFz (fLst aNil))))))) (sRet (fD (dC (.bool false)))) sNext)
    (sRet (fD (dAnd (dChain (fun i j => decide (i ≤ j)) (fun i j => decide (i ≤ j)) (.e (dC (.int 0))) (.e (dBin bIx (.s 0) (.e (dC (.int 0))))) (.e (dC (.int 16)))) (dAnd (dChain (fun i j => decide (i ≤ j)) (fun i j => decide (i ≤ j)) (.e (dC (.int 0))) (.e (dBin bIx (.s 0) (.e (dC (.int 1))))) (.e (dC (.int 16)))) (dBin cNe (.e (dBin bIx (.s 0) (.e (dC (.int 2))))) (.e (dC (.int 0)))))))))
theorem sp_entry : ∀ args Q, S_entry.sp args Q → ir_law_is_entry_6be6 S_isint8 (endsOf args Q) (rho0 N_law_is_entry_6be6 args) := by
  rintro args Q ⟨v, m, rfl, hs, q⟩
  have bigS : (1000 : Nat) < sizeLine := by rw [sizeLine_eq]; decide
  have hp := sml_plain hs
  have fail : isTri v = false → Q (.d (.bool false)) [] := fun h => by
    have e : isEnt v = false := by unfold isEnt; rw [h]; rfl
    rw [e] at q; exact q
  cases v with
  | tuple xs =>
    obtain ⟨hl, hx⟩ := sml_tup hs
    refine ⟨rfl, nofun, fun _ => ⟨fun h => ⟨fun _ => ?_, nofun⟩, fun h => ?_⟩⟩
    · have h : (!decide ((xs.length : Int) = 3)) = true := h
      exact fail (no_three fun z => by rw [z] at h; exact absurd h (by decide))
    · have h : (!decide ((xs.length : Int) = 3)) = false := h
      have h : ((xs.length : Nat) : Int) = 3 := by simpa using h
      obtain ⟨a, b, c, rfl⟩ := len_three (xs := xs) (by omega)
      refine ⟨⟨rfl, rfl⟩, fun i acc ρ => acc = ((([a, b, c].take i).filter fun x => !isI x).map fun _ => PyData.int 1) ∧ ρ = [some (.d (.tuple [a, b, c])), none], ⟨rfl, rfl⟩, fun _ _ _ _ => trivial, ?_, ?_⟩
      · rintro i y acc ρ hy ⟨rfl, rfl⟩
        have hy : [a, b, c][i]? = some y := hy
        refine ⟨rfl, y, rfl, sml_plain (hx y (List.mem_of_getElem? hy)), fun hI => ?_, fun hI => ?_⟩
        · have hI : (!isI y) = true := hI
          refine ⟨?_, ?_, rfl⟩
          · have := List.length_filter_le (fun x => !isI x) ([a, b, c].take i)
            rw [List.length_take] at this
            rw [List.length_map]
            have h3 : [a, b, c].length = 3 := rfl
            omega
          · rw [List.take_add_one, hy, Option.toList_some, List.filter_append, List.map_append, List.filter_cons_of_pos (p := fun x => !isI x) hI]
            rfl
        · have hI : (!isI y) = false := hI
          refine ⟨?_, rfl⟩
          rw [List.take_add_one, hy, Option.toList_some, List.filter_append, List.filter_cons_of_neg (p := fun x => !isI x) (by rw [hI]; exact Bool.false_ne_true), List.filter_nil, List.append_nil]
      · rintro acc ρ ⟨ha, rfl⟩
        have ha : acc = (([a, b, c].filter fun x => !isI x).map fun _ => PyData.int 1) := ha
        have hsh : shp (.list acc) := (Shp.list (n := 0) fun x hx => by
          rw [ha] at hx
          obtain ⟨_, _, rfl⟩ := List.mem_map.mp hx
          exact .int _).shp
        have bd : ∀ P1 P2 : Prop, (isTri (.tuple [a, b, c]) = false → P1) → ((∃ i j k, a = .int i ∧ b = .int j ∧ c = .int k) → P2) → brB (!PyData.eqv (.list acc) (.list [])) P1 P2 := fun P1 P2 k1 k2 => by
          rw [eqv_nil]
          refine ⟨fun hh => k1 (three_odd fun z => ?_), fun hh => k2 ?_⟩
          · rw [ha] at hh
            exact absurd hh (by simp [z.1, z.2.1, z.2.2])
          · have hh : acc.isEmpty = true := by simpa using hh
            rw [ha, List.isEmpty_iff, List.map_eq_nil_iff, List.filter_eq_nil_iff] at hh
            have f : ∀ z ∈ [a, b, c], ∃ i, z = .int i := fun z hz => isI_int (by have := hh z hz; simpa using this)
            obtain ⟨i, rfl⟩ := f a (by simp)
            obtain ⟨j, rfl⟩ := f b (by simp)
            obtain ⟨k, rfl⟩ := f c (by simp)
            exact ⟨i, j, k, rfl, rfl, rfl⟩
        obtain ⟨b1, b2⟩ := bd _ _ (fun h => h) (fun h => h)
        refine ⟨hsh, ⟨rfl, rfl⟩, fun hh => fail (b1 hh), fun hh => ?_⟩
        obtain ⟨i, j, k, rfl, rfl, rfl⟩ := b2 hh
        have et : isEnt (.tuple [.int i, .int j, .int k]) = (decide (0 ≤ i) && decide (i ≤ 16) && (decide (0 ≤ j) && decide (j ≤ 16)) && !decide (k = 0)) := rfl
        rw [et] at q
        refine ⟨_, rfl, fun h1 => ⟨fun h2 => ⟨_, rfl, fun h3 => ⟨fun h4 => ⟨_, rfl, ?_⟩, fun h4 => ?_⟩, fun h3 => ⟨nofun, fun _ => ?_⟩⟩, fun h2 => ?_⟩, fun h1 => ⟨nofun, fun _ => ?_⟩⟩
        · have h1 : decide (0 ≤ i) = true := h1
          have h2 : decide (i ≤ 16) = true := h2
          have h3 : decide (0 ≤ j) = true := h3
          have h4 : decide (j ≤ 16) = true := h4
          rw [h1, h2, h3, h4] at q; exact q
        · have h1 : decide (0 ≤ i) = true := h1
          have h2 : decide (i ≤ 16) = true := h2
          have h3 : decide (0 ≤ j) = true := h3
          have h4 : decide (j ≤ 16) = false := h4
          rw [h1, h2, h3, h4] at q; exact q
        · have h1 : decide (0 ≤ i) = true := h1
          have h2 : decide (i ≤ 16) = true := h2
          have h3 : decide (0 ≤ j) = false := h3
          rw [h1, h2, h3] at q; exact q
        · have h1 : decide (0 ≤ i) = true := h1
          have h2 : decide (i ≤ 16) = false := h2
          rw [h1, h2] at q; exact q
        · have h1 : decide (0 ≤ i) = false := h1
          rw [h1] at q; exact q
  | int i => exact ⟨rfl, fun _ => ⟨fun _ => fail rfl, nofun⟩, nofun⟩
  | bool b => exact ⟨rfl, fun _ => ⟨fun _ => fail rfl, nofun⟩, nofun⟩
  | none => exact ⟨rfl, fun _ => ⟨fun _ => fail rfl, nofun⟩, nofun⟩
  | str s => exact ⟨rfl, fun _ => ⟨fun _ => fail rfl, nofun⟩, nofun⟩
  | list xs => exact ⟨rfl, fun _ => ⟨fun _ => fail rfl, nofun⟩, nofun⟩
  | dict es => cases hp
theorem ent_some {v : PD} (h : isEnt v = true) : ∃ t : T3, v = rowP t ∧ t.1 ≤ 16 ∧ t.2.1 ≤ 16 ∧ t.2.2 ≠ 0 := by
  unfold isEnt at h
  rw [Bool.and_eq_true] at h
  obtain ⟨t, rfl, t1, t2⟩ := isTri_some h.1
  refine ⟨t, rfl, t1, t2, ?_⟩
  have h2 : (!decide (t.2.2 = 0)) = true := h.2
  simpa using h2
theorem ent_row {t : T3} (t1 : t.1 ≤ 16) (t2 : t.2.1 ≤ 16) : isEnt (rowP t) = !decide (t.2.2 = 0) := by
  have : isTri (rowP t) = true := by
    show (decide (0 ≤ ((t.1 : Nat) : Int)) && decide (((t.1 : Nat) : Int) ≤ 16) && (decide (0 ≤ ((t.2.1 : Nat) : Int)) && decide (((t.2.1 : Nat) : Int) ≤ 16))) = true
    simp only [Bool.and_eq_true, decide_eq_true_eq]
    omega
  unfold isEnt
  rw [this]
  rfl
structure Adds (f g : FT) (c m : Nat) (ts : List T3) : Prop where
  fg : FG f g m
  df : f.deg ≤ 16
  dg : g.deg ≤ 16
  c0 : 0 < c
  c1 : c < 2 ^ 110
  sm : sml m (.tuple (ts.map rowP)) = true
  le : ∀ t ∈ ts, t.1 ≤ 16 ∧ t.2.1 ≤ 16
  asc : (ts.map key2).Pairwise pLt
  nz : ∀ t ∈ ts, t.2.2 ≠ 0
theorem Adds.iff {f g : FT} {c m : Nat} {ts : List T3} (h : Adds f g c m ts) : (∀ x y : Nat, x < 17 → y < 17 → sumXY (mulR c ts) (x : Nat) (y : Nat) = subF f g (x : Nat) (y : Nat)) ↔ mulR c ts = rD (subF f g) 17 := by
  have df := h.df
  have dg := h.dg
  refine rows_iff (FT.sub f g).pol (by simp only [FT.deg]; omega) ?_ (fun t ht => ?_) fun t ht => ?_
  · have : (mulR c ts).map key2 = ts.map key2 := by unfold mulR; rw [List.map_map]; rfl
    rw [this]; exact h.asc
  · obtain ⟨s, hs, rfl⟩ := List.mem_map.mp ht
    have := stp_pos (i := s.1) (j := s.2.1) h.c0
    exact Int.mul_ne_zero (h.nz s hs) (by omega)
  · obtain ⟨s, hs, rfl⟩ := List.mem_map.mp ht
    have := h.le s hs
    show s.1 < 17 ∧ s.2.1 < 17
    omega
def S_adds : FSpec := ⟨fun args Q => ∃ (f g : FT) (c m : Nat) (ts : List T3), args = [.d f.pd, .d g.pd, .d (.int c), .d (.tuple (ts.map rowP))] ∧ Adds f g c m ts ∧
  (mulR c ts = rD (subF f g) 17 → Q (.d (.bool true)) []) ∧ (mulR c ts ≠ rD (subF f g) 17 → Q (.d (.bool false)) [])⟩
theorem fall17 {x : Nat} {i : Nat} (hx : x < 17) (hi : i ≤ 16) : (fallI (x : Nat) i).natAbs < 2 ^ 97 := Nat.lt_of_lt_of_le (fallI_small (x := ((x : Nat) : Int)) (m := 6) (n := i) (by omega)) (Nat.pow_le_pow_right (by decide) (by omega))
abbrev N_law_adds_up_a28d : List Str := ["one", "other", "clock", "entries", "rows", "x", "y", "lack", "i", "j", "a", "c"]
def ir_law_adds_up_a28d (S_law_step_b26f : FSpec) (S_law_worth_98b9 : FSpec) (S_law_falling_d92b : FSpec) : TSt :=
  (sSeq (sAsg 4 (fLc (iOwn 3) [8, 9, 10] (.tp [8, 9, 10]) cYes (dTup (aCons (.e (dVar 8)) (aCons (.e (dVar 9)) (aCons (.e (dBin bMulI (.s 10) (.e (dFz (fCall S_law_step_b26f (aCons (.e (dVar 2)) (aCons (.e (dVar 8)) (aCons (.e (dVar 9)) aNil)))))))) aNil))))))
    (sSeq (sFor (iRg (aCons (.e (dC (.int 17))) aNil)) (.nm 5) (sFor (iRg (aCons (.e (dC (.int 17))) aNil)) (.nm 6) (sSeq (sAsg 7 (fD (dBin bSub (.e (dFz (fCall S_law_worth_98b9 (aCons (.e (dVar 0)) (aCons (.e (dVar 5)) (aCons (.e (dVar 6)) aNil)))))) (.e (dFz (fCall S_law_worth_98b9 (aCons (.e (dVar 1)) (aCons (.e (dVar 5)) (aCons (.e (dVar 6)) aNil)))))))))
    (sIf (tVal (dBin cNe (.e (dBi bSum (aCons (.e (dFz (fLc (iOwn 4) [8, 9, 11] (.tp [8, 9, 11]) cYes (dBin bMulI (.e (dBin bMulI (.s 11) (.e (dFz (fCall S_law_falling_d92b (aCons (.e (dVar 5)) (aCons (.e (dVar 8)) aNil))))))) (.e (dFz (fCall S_law_falling_d92b (aCons (.e (dVar 6)) (aCons (.e (dVar 9)) aNil))))))))) aNil))) (.s 7))) (sRet (fD (dC (.bool false)))) sNext))))
    (sRet (fD (dC (.bool true))))))
theorem sp_adds : ∀ args Q, S_adds.sp args Q → ir_law_adds_up_a28d S_step (S_worth 17) S_falling (endsOf args Q) (rho0 N_law_adds_up_a28d args) := by
  rintro args Q ⟨f, g, c, m, ts, rfl, ad, q1, q2⟩
  have bigS : (1000 : Nat) < sizeLine := by rw [sizeLine_eq]; decide
  obtain ⟨hl, hx⟩ := sml_tup ad.sm
  rw [List.length_map] at hl
  have fg := ad.fg
  have m0 := fg.m0
  have m1 := fg.m1
  have hc : ∀ t ∈ ts, t.2.2.natAbs < 2 ^ m := fun t ht => sml_int ((sml_tup (hx (rowP t) (List.mem_map.mpr ⟨t, ht, rfl⟩))).2 (.int t.2.2) (by simp [rowP]))
  obtain ⟨R, hR⟩ : ∃ R, R = mulR c ts := ⟨_, rfl⟩
  have lR : R.length ≤ 1000 := by rw [hR]; unfold mulR; rw [List.length_map]; exact hl
  have bR : ∀ t ∈ R, t.1 ≤ 16 ∧ t.2.1 ≤ 16 ∧ t.2.2.natAbs < 2 ^ (m + 110) := fun t ht => by
    rw [hR] at ht
    obtain ⟨s, hs, rfl⟩ := List.mem_map.mp ht
    obtain ⟨s1, s2⟩ := ad.le s hs
    have sl := stp_le c s.1 s.2.1
    exact ⟨s1, s2, two_mul (hc s hs) (show ((stp c s.1 s.2.1 : Nat) : Int).natAbs < 2 ^ 110 by rw [Int.natAbs_natCast]; have := ad.c1; omega) (Nat.le_refl _)⟩
  have df : ∀ x y : Nat, ∀ i : Nat, i ≤ 16 → x < 17 → (fallI (x : Nat) i).natAbs < 2 ^ 97 := fun x y i hi hx => fall17 hx hi
  rw [← hR] at q1 q2
  have iff := ad.iff
  rw [← hR] at iff
  refine ⟨⟨rfl, rfl⟩, fun i acc ρ => acc = (mulR c (ts.take i)).map rowP ∧ ρ = [some (.d f.pd), some (.d g.pd), some (.d (.int (c : Nat))), some (.d (.tuple (ts.map rowP))), none, none, none, none, none, none, none, none], ⟨rfl, rfl⟩, fun _ _ _ _ => trivial, ?_, ?_⟩
  · rintro i y acc ρ hy ⟨rfl, rfl⟩
    have hy : (ts.map rowP)[i]? = some y := hy
    rw [List.getElem?_map] at hy
    obtain ⟨t, ht, rfl⟩ := Option.map_eq_some_iff.mp hy
    have htm := List.mem_of_getElem? ht
    obtain ⟨t1, t2⟩ := ad.le t htm
    have sl := stp_le c t.1 t.2.1
    have c1 := ad.c1
    refine ⟨rfl, fun _ => ⟨rfl, c, t.1, t.2.1, rfl, ad.c0, c1, by omega, by omega, mulOk m 110 (hc t htm) (by rw [Int.natAbs_natCast]; omega) (by omega) (by omega) (by decide), ?_, ?_, rfl⟩, nofun⟩
    · unfold mulR
      rw [List.length_map, List.length_map, List.length_take]; omega
    · unfold mulR
      rw [List.take_add_one, ht, Option.toList_some, List.map_append, List.map_append]
      rfl
  · rintro acc ρ ⟨ha, rfl⟩
    have ha : acc = (mulR c (ts.take (ts.map rowP).length)).map rowP := ha
    rw [List.length_map, List.take_length, ← hR] at ha
    subst ha
    refine ⟨by decide, _, rfl, fun x ρ => (∃ (s5 s6 s7 : Option Lc), ρ = [some (.d f.pd), some (.d g.pd), some (.d (.int (c : Nat))), some (.d (.tuple (ts.map rowP))), some (.ls none (R.map rowP)), s5, s6, s7, none, none, none, none]) ∧ ∀ a b : Nat, a < x → b < 17 → sumXY R (a : Nat) (b : Nat) = subF f g (a : Nat) (b : Nat), ⟨⟨none, none, none, rfl⟩, fun a b ha => absurd ha (Nat.not_lt_zero _)⟩, ?_, ?_⟩
    · rintro x yy ρ hy ⟨⟨s5, s6, s7, rfl⟩, hA⟩
      obtain ⟨rfl, hx17⟩ := rngD_get hy
      have hx17 : x < 17 := hx17
      have e0 : (0 : Int) + ((x : Nat) : Int) = ((x : Nat) : Int) := by omega
      rw [e0]
      refine ⟨by decide, _, rfl, fun y ρ => (∃ (s6 s7 : Option Lc), ρ = [some (.d f.pd), some (.d g.pd), some (.d (.int (c : Nat))), some (.d (.tuple (ts.map rowP))), some (.ls none (R.map rowP)), some (.d (.int (x : Nat))), s6, s7, none, none, none, none]) ∧ ∀ b : Nat, b < y → sumXY R (x : Nat) (b : Nat) = subF f g (x : Nat) (b : Nat), ⟨⟨s6, s7, rfl⟩, fun b hb => absurd hb (Nat.not_lt_zero _)⟩, ?_, ?_⟩
      · rintro y yy ρ hy ⟨⟨s6, s7, rfl⟩, hB⟩
        obtain ⟨rfl, hy17⟩ := rngD_get hy
        have hy17 : y < 17 := hy17
        have e0 : (0 : Int) + ((y : Nat) : Int) = ((y : Nat) : Int) := by omega
        rw [e0]
        have b10 : (2 : Nat) ^ 10 ≤ 2 ^ m := Nat.pow_le_pow_right (by decide) m0
        have wx : ((x : Nat) : Int).natAbs < 2 ^ m := by rw [Int.natAbs_natCast]; omega
        have wy : ((y : Nat) : Int).natAbs < 2 ^ m := by rw [Int.natAbs_natCast]; omega
        refine ⟨rfl, f, (x : Nat), (y : Nat), m, rfl, fg.l1, fg.o1, wx, wy, rfl, g, (x : Nat), (y : Nat), m, rfl, fg.l2, fg.o2, wx, wy, ?_⟩
        have lf : lcFree [some (.d f.pd), some (.d g.pd), some (.d (.int (c : Nat))), some (.d (.tuple (ts.map rowP))), some (.ls none (R.map rowP)), some (.d (.int (x : Nat))), some (.d (.int (y : Nat))), some (.d (.int (f.val (x : Nat) (y : Nat) - g.val (x : Nat) (y : Nat)))), none, none, none, none] [8, 9, 11] = true := rfl
        refine ⟨⟨lf, rfl⟩, fun i acc ρ => acc = (((R.take i).map fun t => t.2.2 * fallI (x : Nat) t.1 * fallI (y : Nat) t.2.1).map PyData.int) ∧ ρ = [some (.d f.pd), some (.d g.pd), some (.d (.int (c : Nat))), some (.d (.tuple (ts.map rowP))), some (.ls none (R.map rowP)), some (.d (.int (x : Nat))), some (.d (.int (y : Nat))), some (.d (.int (f.val (x : Nat) (y : Nat) - g.val (x : Nat) (y : Nat)))), none, none, none, none], ⟨rfl, rfl⟩, ?_, ?_, ?_⟩
        · rintro i acc ρ ⟨_, rfl⟩
          rfl
        · rintro i z acc ρ hz ⟨rfl, rfl⟩
          have hz : (R.map rowP)[i]? = some z := hz
          rw [List.getElem?_map] at hz
          obtain ⟨t, ht, rfl⟩ := Option.map_eq_some_iff.mp hz
          obtain ⟨t1, t2, t3⟩ := bR t (List.mem_of_getElem? ht)
          have f1 := fall17 hx17 t1
          have f2 := fall17 hy17 t2
          refine ⟨rfl, fun _ => ⟨rfl, (x : Nat), t.1, 6, rfl, by rw [Int.natAbs_natCast]; omega, by decide, by omega, by omega, mulOk (m + 110) 97 t3 f1 (by omega) (by omega) (by decide), rfl, (y : Nat), t.2.1, 6, rfl, by rw [Int.natAbs_natCast]; omega, by decide, by omega, by omega, mulOk (m + 207) 97 (two_mul t3 f1 (by omega)) f2 (by omega) (by omega) (by decide), ?_, ?_, rfl⟩, nofun⟩
          · rw [List.length_map, List.length_map, List.length_take]; omega
          · rw [List.take_add_one, ht, Option.toList_some, List.map_append, List.map_append]
            rfl
        · rintro acc ρ ⟨ha, rfl⟩
          have ha : acc = (((R.take (R.map rowP).length).map fun t => t.2.2 * fallI (x : Nat) t.1 * fallI (y : Nat) t.2.1).map PyData.int) := ha
          rw [List.length_map, List.take_length] at ha
          refine ⟨_, ha, fun h => ?_, fun h => ?_⟩
          · have h : (!decide (sumXY R (x : Nat) (y : Nat) = subF f g (x : Nat) (y : Nat))) = true := h
            have h : ¬ sumXY R (x : Nat) (y : Nat) = subF f g (x : Nat) (y : Nat) := by simpa using h
            exact q2 fun z => h (iff.mpr z x y hx17 hy17)
          · have h : (!decide (sumXY R (x : Nat) (y : Nat) = subF f g (x : Nat) (y : Nat))) = false := h
            have h : sumXY R (x : Nat) (y : Nat) = subF f g (x : Nat) (y : Nat) := by simpa using h
            refine ⟨⟨_, _, rfl⟩, fun b hb => ?_⟩
            rcases Nat.lt_or_ge b y with z | z
            · exact hB b z
            · rw [show b = y by omega]; exact h
      · rintro ρ ⟨⟨s6, s7, rfl⟩, hB⟩
        refine ⟨⟨_, _, _, rfl⟩, fun a b ha hb => ?_⟩
        rcases Nat.lt_or_ge a x with z | z
        · exact hA a b z hb
        · rw [show a = x by omega]; exact hB b hb
    · rintro ρ ⟨⟨s5, s6, s7, rfl⟩, hA⟩
      exact q1 (iff.mp fun a b ha hb => hA a b ha hb)
theorem sml_up (k : Nat) : ∀ v : PD, sml k v = true → sml (k + 1) v = true :=
  fun v => PyData.rec (motive_1 := fun v => sml k v = true → sml (k + 1) v = true) (motive_2 := fun xs => smlA k xs = true → smlA (k + 1) xs = true) (motive_3 := fun _ => True) (motive_4 := fun _ => True)
    (fun _ => rfl) (fun _ _ => rfl) (fun i h => by have := sml_int h; rw [sml]; exact decide_eq_true (by rw [Nat.pow_succ]; omega)) (fun s h => by rw [sml] at h ⊢; exact h)
    (fun xs ih h => by rw [sml, Bool.and_eq_true] at h ⊢; exact ⟨h.1, ih h.2⟩) (fun xs ih h => by rw [sml, Bool.and_eq_true] at h ⊢; exact ⟨h.1, ih h.2⟩) (fun es _ h => by rw [sml] at h; cases h)
    (fun h => rfl) (fun x r a b h => by rw [smlA, Bool.and_eq_true] at h ⊢; exact ⟨a h.1, b h.2⟩) trivial (fun _ _ _ _ => trivial) (fun _ _ _ _ => trivial) v
def E0 : Nat := 3200
structure Atom (n : Nat) (x : PD) : Prop where
  sm : sml (E0 + n) x = true
  sh : Shw 1 3300 x
structure EntK (n : Nat) (x : PD) : Prop where
  sm : sml (E0 + n) x = true
  sh : Shw 2 13300 x
theorem Atom.ent {n : Nat} {x : PD} (h : Atom n x) : EntK n x := ⟨h.sm, h.sh.mono (by decide) (by decide)⟩
theorem Atom.int {n : Nat} {i : Int} (hn : n ≤ 50) (h : i.natAbs < 2 ^ (E0 + n)) : Atom n (.int i) := ⟨by rw [sml]; exact decide_eq_true h, (Shw.int (n := 1) h (by show 3200 + n ≤ 14000; omega) (by show 0 < 3200 + n; omega)).mono (Nat.le_refl _) (by show 3200 + n + 1 ≤ 3300; omega)⟩
theorem big_E (n : Nat) : (2 : Nat) ^ 100 ≤ 2 ^ (E0 + n) := Nat.pow_le_pow_right (by decide) (by show 100 ≤ 3200 + n; omega)
theorem Atom.small {n : Nat} {i : Int} (hn : n ≤ 50) (h : i.natAbs < 2 ^ 100) : Atom n (.int i) := Atom.int hn (Nat.lt_of_lt_of_le h (big_E n))
theorem Atom.bl {n : Nat} (b : Bool) : Atom n (.bool b) := ⟨rfl, (Shw.bl b).mono (Nat.le_refl _) (by decide)⟩
theorem Atom.non {n : Nat} : Atom n .none := ⟨rfl, Shw.non.mono (Nat.le_refl _) (by decide)⟩
theorem Atom.s01 {n : Nat} {s : Str} (h : s = "0" ∨ s = "1") : Atom n (.str s) := by
  rcases h with rfl | rfl
  · exact ⟨by rw [sml]; decide, (Shw.str (z := 3) (by decide +kernel)).mono (Nat.le_refl _) (by decide)⟩
  · exact ⟨by rw [sml]; decide, (Shw.str (z := 3) (by decide +kernel)).mono (Nat.le_refl _) (by decide)⟩
theorem EntK.tup {n : Nat} {xs : List PD} (hl : xs.length ≤ 4) (h : ∀ x ∈ xs, Atom n x) : EntK n (.tuple xs) := by
  refine ⟨?_, ?_⟩
  · rw [sml, Bool.and_eq_true, smlA_all, List.all_eq_true]
    exact ⟨decide_eq_true (by omega), fun x hx => (h x hx).sm⟩
  · refine (Shw.tup (z := 3300) fun x hx => (h x hx).sh).mono (Nat.le_refl _) ?_
    have : xs.length * (3300 + 2) ≤ 4 * (3300 + 2) := Nat.mul_le_mul hl (Nat.le_refl _)
    omega
theorem EntK.list {n : Nat} {xs : List PD} (hl : xs.length ≤ 4) (h : ∀ x ∈ xs, Atom n x) : EntK n (.list xs) := by
  refine ⟨?_, ?_⟩
  · rw [sml, Bool.and_eq_true, smlA_all, List.all_eq_true]
    exact ⟨decide_eq_true (by omega), fun x hx => (h x hx).sm⟩
  · refine (Shw.list (z := 3300) fun x hx => (h x hx).sh).mono (Nat.le_refl _) ?_
    have : xs.length * (3300 + 2) ≤ 4 * (3300 + 2) := Nat.mul_le_mul hl (Nat.le_refl _)
    omega
theorem EntK.t3 {n : Nat} {a b c : PD} (ha : Atom n a) (hb : Atom n b) (hc : Atom n c) : EntK n (.tuple [a, b, c]) := EntK.tup (by show 3 ≤ 4; decide) fun x hx => by
  rcases List.mem_cons.mp hx with rfl | hx
  · exact ha
  · rcases List.mem_cons.mp hx with rfl | hx
    · exact hb
    · rw [List.mem_singleton.mp hx]; exact hc
theorem EntK.up {n : Nat} {x : PD} (h : EntK n x) : EntK (n + 1) x := ⟨sml_up _ _ h.sm, h.sh⟩
structure EOk (n : Nat) (es : List PD) : Prop where
  len : es.length ≤ 290 + n
  each : ∀ e ∈ es, EntK n e
theorem EOk.sml {n : Nat} {es : List PD} (hn : n ≤ 10) (h : EOk n es) : sml (E0 + n) (.tuple es) = true := by
  have := h.len
  rw [DL.sml, Bool.and_eq_true, smlA_all, List.all_eq_true]
  exact ⟨decide_eq_true (by omega), fun x hx => (h.each x hx).sm⟩
theorem EOk.shw {n : Nat} {es : List PD} (hn : n ≤ 10) (h : EOk n es) : Shw 3 4000000 (.tuple es) := by
  refine (Shw.tup (z := 13300) fun x hx => (h.each x hx).sh).mono (Nat.le_refl _) ?_
  have : es.length * (13300 + 2) ≤ 300 * (13300 + 2) := Nat.mul_le_mul (by have := h.len; omega) (Nat.le_refl _)
  omega
theorem cut_mem {α : Type} {xs : List α} {lo hi : Option Int} {x : α} (h : x ∈ cutD xs lo hi) : x ∈ xs := List.mem_of_mem_drop (List.mem_of_mem_take h)
theorem cut_l1 {α : Type} (xs : List α) (k : Nat) : (cutD xs none (some (k : Int))).length = min k xs.length := by
  unfold cutD
  rw [List.length_take, List.length_drop, HT.sIx_none, HT.sIx_nat]; omega
theorem cut_l2 {α : Type} (xs : List α) (k : Nat) : (cutD xs (some (k : Int)) none).length = xs.length - min k xs.length := by
  unfold cutD
  rw [List.length_take, List.length_drop, HT.sIx_none, HT.sIx_nat]; omega
theorem cut_l3 {α : Type} (xs : List α) (a b : Nat) : (cutD xs (some (a : Int)) (some (b : Int))).length ≤ min b xs.length - min a xs.length := by
  unfold cutD
  rw [List.length_take, List.length_drop, HT.sIx_nat, HT.sIx_nat]; omega
def S_bentE : FSpec := ⟨fun args Q => ∃ (b : Nat) (dk : List PD) (n : Nat) (es : List PD), args = [.ls (some 0) dk, .d (.tuple es)] ∧ Dk (b + 3) dk ∧ n ≤ 9 ∧ EOk n es ∧ ∀ es' dk', EOk (n + 1) es' → Dk b dk' → Q (.d (.tuple es')) [.ls (some 0) dk']⟩
abbrev N_law_bent_entries_5bbe : List Str := ["deck", "entries", "at", "i", "j", "a", "odd", "way"]
def ir_law_bent_entries_5bbe (S_law_draw_a51a : FSpec) (S_law_is_entry_6be6 : FSpec) (S_law_one_90da : FSpec) : TSt :=
  (sSeq (sAsg 2 (fCall S_law_draw_a51a (aCons (.s 0) (aCons (.e (dBin bAdd (.e (dBi bLen (aCons (.s 1) aNil))) (.e (dC (.int 1))))) aNil))))
    (sSeq (sUnp (.tp [3, 4, 5]) (dTup (aCons (.e (dC (.int 1))) (aCons (.e (dC (.int 0))) (aCons (.e (dC (.int 1))) aNil)))))
    (sSeq (sIf (tAndD (tVal (dBin cLt (.s 2) (.e (dBi bLen (aCons (.s 1) aNil))))) (tVal (dFz (fCall S_law_is_entry_6be6 (aCons (.e (dBin bIx (.s 1) (.s 2))) aNil))))) (sUnp (.tp [3, 4, 5]) (dBin bIx (.s 1) (.s 2))) sNext)
    (sSeq (sAsg 6 (fLst (aCons (.e (dTup (aCons (.e (dVar 3)) (aCons (.e (dVar 4)) (aCons (.e (dBin bAdd (.s 5) (.e (dC (.int 1))))) aNil))))) (aCons (.e (dTup (aCons (.e (dVar 3)) (aCons (.e (dVar 4)) (aCons (.e (dNeg (.s 5))) aNil))))) (aCons (.e (dTup (aCons (.e (dVar 3)) (aCons (.e (dVar 4)) (aCons (.e (dC (.int 0))) aNil))))) (aCons (.e (dTup (aCons (.e (dBin bAdd (.s 3) (.e (dC (.int 1))))) (aCons (.e (dVar 4)) (aCons (.e (dVar 5)) aNil))))) (aCons (.e (dTup (aCons (.e (dVar 3)) (aCons (.e (dBin bAdd (.s 4) (.e (dC (.int 1))))) (aCons (.e (dVar 5)) aNil))))) (aCons (.e (dTup (aCons (.e (dVar 3)) (aCons (.e (dVar 4)) aNil)))) (aCons (.e (dTup (aCons (.e (dVar 3)) (aCons (.e (dVar 4)) (aCons (.e (dVar 5)) (aCons (.e (dC (.int 0))) aNil)))))) (aCons (.e (dFz (fLst (aCons (.e (dVar 3)) (aCons (.e (dVar 4)) (aCons (.e (dVar 5)) aNil)))))) (aCons (.e (dC (.none))) aNil)))))))))))
    (sSeq (sAsg 6 (fD (dBin bAdd (.s 6) (.e (dFz (fLst (aCons (.e (dTup (aCons (.e (dC (.int 17))) (aCons (.e (dC (.int 0))) (aCons (.e (dVar 5)) aNil))))) (aCons (.e (dTup (aCons (.e (dC (.int 0))) (aCons (.e (dC (.int 17))) (aCons (.e (dC (.int 1))) aNil))))) (aCons (.e (dTup (aCons (.e (dNeg (.e (dC (.int 1))))) (aCons (.e (dVar 4)) (aCons (.e (dVar 5)) aNil))))) (aCons (.e (dTup (aCons (.e (dC (.int 16))) (aCons (.e (dC (.int 16))) (aCons (.e (dC (.int 1))) aNil))))) (aCons (.e (dTup (aCons (.e (dVar 3)) (aCons (.e (dC (.bool true))) (aCons (.e (dVar 5)) aNil))))) (aCons (.e (dTup (aCons (.e (dVar 3)) (aCons (.e (dVar 4)) (aCons (.e (dC (.str "1"))) aNil))))) (aCons (.e (dTup (aCons (.e (dVar 3)) (aCons (.e (dVar 4)) (aCons (.e (dVar 5)) aNil))))) aNil)))))))))))))
    (sSeq (sAsg 6 (fD (dBin bAdd (.s 6) (.e (dFz (fLst (aCons (.e (dTup (aCons (.e (dVar 3)) (aCons (.e (dVar 4)) (aCons (.e (dC (.bool true))) aNil))))) (aCons (.e (dTup (aCons (.e (dC (.bool true))) (aCons (.e (dVar 4)) (aCons (.e (dVar 5)) aNil))))) (aCons (.e (dTup (aCons (.e (dC (.bool false))) (aCons (.e (dVar 4)) (aCons (.e (dVar 5)) aNil))))) (aCons (.e (dTup (aCons (.e (dVar 3)) (aCons (.e (dC (.bool false))) (aCons (.e (dVar 5)) aNil))))) (aCons (.e (dTup (aCons (.e (dC (.bool true))) (aCons (.e (dC (.int 0))) (aCons (.e (dC (.int 1))) aNil))))) (aCons (.e (dTup (aCons (.e (dC (.none))) (aCons (.e (dVar 4)) (aCons (.e (dVar 5)) aNil))))) (aCons (.e (dTup (aCons (.e (dVar 3)) (aCons (.e (dC (.str "0"))) (aCons (.e (dVar 5)) aNil))))) aNil)))))))))))))
    (sSeq (sAsg 7 (fCall S_law_draw_a51a (aCons (.s 0) (aCons (.e (dC (.int 4))) aNil))))
    (sSeq (sIf (tVal (dBin cEq (.s 7) (.e (dC (.int 0))))) (sRet (fD (dBin bAddT (.e (dSl (.s 1) pNone (pSome (.s 2)))) (.e (dSl (.s 1) (pSome (.e (dBin bAdd (.s 2) (.e (dC (.int 1)))))) pNone))))) sNext)
    (sSeq (sIf (tVal (dBin cEq (.s 7) (.e (dC (.int 1))))) (sRet (fD (dBin bAddT (.e (dBin bAddT (.e (dSl (.s 1) pNone (pSome (.s 2)))) (.e (dRevT (.e (dSl (.s 1) (pSome (.s 2)) (pSome (.e (dBin bAdd (.s 2) (.e (dC (.int 2)))))))))))) (.e (dSl (.s 1) (pSome (.e (dBin bAdd (.s 2) (.e (dC (.int 2)))))) pNone))))) sNext)
    (sRet (fD (dBin bAddT (.e (dBin bAddT (.e (dSl (.s 1) pNone (pSome (.s 2)))) (.e (dTup (aCons (.e (dFz (fCall S_law_one_90da (aCons (.s 0) (aCons (.e (dVar 6)) aNil))))) aNil))))) (.e (dSl (.s 1) (pSome (.e (dBin bAdd (.s 2) (.e (dBi bInt (aCons (.e (dBin cEq (.s 7) (.e (dC (.int 2))))) aNil)))))) pNone))))))))))))))
theorem nat16 : (1 : Int).natAbs ≤ 16 := by decide
theorem nat16' : (0 : Int).natAbs ≤ 16 := by decide
theorem one_E (n : Nat) : (1 : Int).natAbs < 2 ^ (E0 + n) := Nat.lt_of_lt_of_le (show (1 : Int).natAbs < 2 ^ 100 by decide) (big_E n)
theorem sp_bentE : ∀ args Q, S_bentE.sp args Q → ir_law_bent_entries_5bbe S_draw S_entry S_one (endsOf args Q) (rho0 N_law_bent_entries_5bbe args) := by
  rintro args Q ⟨b, dk, n, es, rfl, hd, hn, he, q⟩
  have bigS : (1000 : Nat) < sizeLine := by rw [sizeLine_eq]; decide
  have hl := he.len
  refine ⟨rfl, b + 2, dk, ((es.length : Nat) : Int) + 1, rfl, hd, ⟨by omega, by have := log2_lt (i := ((es.length : Nat) : Int) + 1) (k := 20) (by omega) (by decide); omega⟩, fun r dk1 r0 r1 d1 => ?_⟩
  obtain ⟨a, rfl⟩ : ∃ a : Nat, r = (a : Nat) := ⟨r.toNat, by omega⟩
  have ha : a ≤ es.length := by omega
  refine ⟨rfl, fun h => ?_, fun h => ⟨nofun, fun _ => ?_⟩⟩
  · have h : ((a : Nat) : Int) < ((es.length : Nat) : Int) := of_decide_eq_true h
    obtain ⟨v, hv⟩ : ∃ v, es[a]? = some v := ⟨_, List.getElem?_eq_getElem (by omega)⟩
    have hk := he.each v (List.mem_of_getElem? hv)
    refine ⟨v, atI_nat hv, rfl, v, E0 + n, rfl, hk.sm, fun h2 => ?_, fun h2 => ?_⟩
    · obtain ⟨t, rfl, t1, t2, t3⟩ := ent_some (v := v) h2
      refine ⟨rowP t, atI_nat hv, rfl, ?_⟩
      have hi : (((t.1 : Nat) : Int) : Int).natAbs ≤ 16 := (by rw [Int.natAbs_natCast]; exact t1)
      have hj : (((t.2.1 : Nat) : Int) : Int).natAbs ≤ 16 := (by rw [Int.natAbs_natCast]; exact t2)
      have hc : (t.2.2 : Int).natAbs < 2 ^ (E0 + n) := (sml_int ((sml_tup hk.sm).2 (.int t.2.2) (by simp [rowP])))
      obtain ⟨i, ei⟩ : ∃ i : Int, i = ((t.1 : Nat) : Int) := ⟨_, rfl⟩
      obtain ⟨j, ej⟩ : ∃ j : Int, j = ((t.2.1 : Nat) : Int) := ⟨_, rfl⟩
      obtain ⟨c, ec0⟩ : ∃ c : Int, c = t.2.2 := ⟨_, rfl⟩
      rw [← ei] at hi
      rw [← ej] at hj
      rw [← ec0] at hc
      have hl := he.len
      have Ai : ∀ k : Int, k.natAbs ≤ 20 → Atom (n + 1) (.int k) := fun k hk => Atom.small (by omega) (by omega)
      have ec : (2 : Nat) ^ (E0 + (n + 1)) = 2 ^ (E0 + n) * 2 := by rw [← Nat.add_assoc, Nat.pow_succ]
      have bE := big_E n
      have Ac : ∀ k : Int, k.natAbs ≤ c.natAbs + 1 → Atom (n + 1) (.int k) := fun k hk => Atom.int (by omega) (by rw [ec]; omega)
      have gi := Ai i (by omega)
      have gj := Ai j (by omega)
      have gc := Ac c (by omega)
      have e1 : ((a : Nat) : Int) + 1 = ((a + 1 : Nat) : Int) := by omega
      have e2 : ((a : Nat) : Int) + 2 = ((a + 2 : Nat) : Int) := by omega
      have c1 := cut_l1 es a
      have c2 := cut_l2 es (a + 1)
      have c3 := cut_l3 es a (a + 2)
      have c4 := cut_l2 es (a + 2)
      have c5 := cut_l2 es a
      refine ⟨by show 9 + 7 ≤ _; omega, by show 16 + 7 ≤ _; omega, rfl, b + 1, dk1, 4, rfl, d1, ⟨by decide, by decide⟩, fun r dk2 r0 r1 d2 => ⟨fun h => ?_, fun h => ⟨fun h2 => ?_, fun h2 => ?_⟩⟩⟩
      · refine ⟨by rw [e1, c1, c2]; omega, ?_⟩
        rw [e1]
        refine q _ dk2 ⟨by rw [List.length_append, c1, c2]; omega, fun e hm => ?_⟩ (d2.mono (by omega))
        rcases List.mem_append.mp hm with hm | hm <;> exact (he.each e (cut_mem hm)).up
      · refine ⟨by rw [List.length_reverse, e2, c1]; omega, by rw [List.length_append, List.length_reverse, e2, c1, c4]; omega, ?_⟩
        rw [e2]
        refine q _ dk2 ⟨by rw [List.length_append, List.length_append, List.length_reverse, c1, c4]; omega, fun e hm => ?_⟩ (d2.mono (by omega))
        rcases List.mem_append.mp hm with hm | hm
        · rcases List.mem_append.mp hm with hm | hm
          · exact (he.each e (cut_mem hm)).up
          · exact (he.each e (cut_mem (List.mem_reverse.mp hm))).up
        · exact (he.each e (cut_mem hm)).up
      · refine ⟨rfl, b, dk2, _, rfl, d2, ⟨Nat.succ_pos _, by show 23 < 2 ^ 60; decide⟩, fun x dk3 hx d3 => ?_⟩
        have fx : EntK (n + 1) x := by
          have all : ∀ x ∈ [PyData.tuple [.int i, .int j, .int (c + 1)], .tuple [.int i, .int j, .int (-c)], .tuple [.int i, .int j, .int 0], .tuple [.int (i + 1), .int j, .int c], .tuple [.int i, .int (j + 1), .int c], .tuple [.int i, .int j], .tuple [.int i, .int j, .int c, .int 0], .list [.int i, .int j, .int c], .none,
              .tuple [.int 17, .int 0, .int c], .tuple [.int 0, .int 17, .int 1], .tuple [.int (-1), .int j, .int c], .tuple [.int 16, .int 16, .int 1], .tuple [.int i, .bool true, .int c], .tuple [.int i, .int j, .str "1"], .tuple [.int i, .int j, .int c],
              .tuple [.int i, .int j, .bool true], .tuple [.bool true, .int j, .int c], .tuple [.bool false, .int j, .int c], .tuple [.int i, .bool false, .int c], .tuple [.bool true, .int 0, .int 1], .tuple [.none, .int j, .int c], .tuple [.int i, .str "0", .int c]], EntK (n + 1) x := by
            simp only [List.forall_mem_cons]
            refine ⟨.t3 gi gj (Ac _ (by omega)), .t3 gi gj (Ac _ (by omega)), .t3 gi gj (Ai _ (by decide)), .t3 (Ai _ (by omega)) gj gc, .t3 gi (Ai _ (by omega)) gc, ?_, ?_, ?_, Atom.non.ent, .t3 (Ai _ (by decide)) (Ai _ (by decide)) gc, .t3 (Ai _ (by decide)) (Ai _ (by decide)) (Ai _ (by decide)), .t3 (Ai _ (by decide)) gj gc, .t3 (Ai _ (by decide)) (Ai _ (by decide)) (Ai _ (by decide)), .t3 gi (.bl _) gc, .t3 gi gj (.s01 (.inr rfl)), .t3 gi gj gc, .t3 gi gj (.bl _), .t3 (.bl _) gj gc, .t3 (.bl _) gj gc, .t3 gi (.bl _) gc, .t3 (.bl _) (Ai _ (by decide)) (Ai _ (by decide)), .t3 .non gj gc, .t3 gi (.s01 (.inl rfl)) gc, fun x hx => by cases hx⟩
            · exact EntK.tup (by show 2 ≤ 4; decide) fun y hy => by
                rcases List.mem_cons.mp hy with rfl | hy
                · exact gi
                · rw [List.mem_singleton.mp hy]; exact gj
            · exact EntK.tup (by show 4 ≤ 4; decide) fun y hy => by
                rcases List.mem_cons.mp hy with rfl | hy
                · exact gi
                · rcases List.mem_cons.mp hy with rfl | hy
                  · exact gj
                  · rcases List.mem_cons.mp hy with rfl | hy
                    · exact gc
                    · rw [List.mem_singleton.mp hy]; exact Ai _ (by decide)
            · exact EntK.list (by show 3 ≤ 4; decide) fun y hy => by
                rcases List.mem_cons.mp hy with rfl | hy
                · exact gi
                · rcases List.mem_cons.mp hy with rfl | hy
                  · exact gj
                  · rw [List.mem_singleton.mp hy]; exact gc
          exact all x (by rw [ei, ej, ec0]; exact hx)
        have ed : ∃ k : Nat, ((a : Nat) : Int) + (if decide (r = 2) = true then 1 else 0) = ((a + k : Nat) : Int) := by
          by_cases z : r = 2
          · exact ⟨1, by rw [if_pos (decide_eq_true z)]; omega⟩
          · exact ⟨0, by rw [if_neg (by rw [decide_eq_false z]; exact Bool.false_ne_true)]; omega⟩
        obtain ⟨k, ek⟩ := ed
        have ck := cut_l2 es (a + k)
        refine ⟨?_, ?_, ?_⟩
        · show (cutD es none (some (a : Nat))).length + 1 ≤ _
          rw [c1]; omega
        · show (cutD es none (some (a : Nat)) ++ [x]).length + (cutD es (some (((a : Nat) : Int) + (if decide (r = 2) = true then 1 else 0))) none).length ≤ _
          rw [ek, List.length_append, c1, ck]
          show min a es.length + 1 + _ ≤ _
          omega
        · show Q (.d (.tuple (cutD es none (some (a : Nat)) ++ [x] ++ cutD es (some (((a : Nat) : Int) + (if decide (r = 2) = true then 1 else 0))) none))) _
          rw [ek]
          refine q _ dk3 ⟨?_, fun e hm => ?_⟩ d3
          · rw [List.length_append, List.length_append, c1, ck]
            show min a es.length + 1 + _ ≤ _
            omega
          · rcases List.mem_append.mp hm with hm | hm
            · rcases List.mem_append.mp hm with hm | hm
              · exact (he.each e (cut_mem hm)).up
              · rw [List.mem_singleton.mp hm]; exact fx
            · exact (he.each e (cut_mem hm)).up
    · skip
      have hi : (1 : Int).natAbs ≤ 16 := nat16
      have hj : (0 : Int).natAbs ≤ 16 := nat16'
      have hc : (1 : Int).natAbs < 2 ^ (E0 + n) := (one_E n)
      obtain ⟨i, ei⟩ : ∃ i : Int, i = 1 := ⟨_, rfl⟩
      obtain ⟨j, ej⟩ : ∃ j : Int, j = 0 := ⟨_, rfl⟩
      obtain ⟨c, ec0⟩ : ∃ c : Int, c = 1 := ⟨_, rfl⟩
      rw [← ei] at hi
      rw [← ej] at hj
      rw [← ec0] at hc
      have hl := he.len
      have Ai : ∀ k : Int, k.natAbs ≤ 20 → Atom (n + 1) (.int k) := fun k hk => Atom.small (by omega) (by omega)
      have ec : (2 : Nat) ^ (E0 + (n + 1)) = 2 ^ (E0 + n) * 2 := by rw [← Nat.add_assoc, Nat.pow_succ]
      have bE := big_E n
      have Ac : ∀ k : Int, k.natAbs ≤ c.natAbs + 1 → Atom (n + 1) (.int k) := fun k hk => Atom.int (by omega) (by rw [ec]; omega)
      have gi := Ai i (by omega)
      have gj := Ai j (by omega)
      have gc := Ac c (by omega)
      have e1 : ((a : Nat) : Int) + 1 = ((a + 1 : Nat) : Int) := by omega
      have e2 : ((a : Nat) : Int) + 2 = ((a + 2 : Nat) : Int) := by omega
      have c1 := cut_l1 es a
      have c2 := cut_l2 es (a + 1)
      have c3 := cut_l3 es a (a + 2)
      have c4 := cut_l2 es (a + 2)
      have c5 := cut_l2 es a
      refine ⟨by show 9 + 7 ≤ _; omega, by show 16 + 7 ≤ _; omega, rfl, b + 1, dk1, 4, rfl, d1, ⟨by decide, by decide⟩, fun r dk2 r0 r1 d2 => ⟨fun h => ?_, fun h => ⟨fun h2 => ?_, fun h2 => ?_⟩⟩⟩
      · refine ⟨by rw [e1, c1, c2]; omega, ?_⟩
        rw [e1]
        refine q _ dk2 ⟨by rw [List.length_append, c1, c2]; omega, fun e hm => ?_⟩ (d2.mono (by omega))
        rcases List.mem_append.mp hm with hm | hm <;> exact (he.each e (cut_mem hm)).up
      · refine ⟨by rw [List.length_reverse, e2, c1]; omega, by rw [List.length_append, List.length_reverse, e2, c1, c4]; omega, ?_⟩
        rw [e2]
        refine q _ dk2 ⟨by rw [List.length_append, List.length_append, List.length_reverse, c1, c4]; omega, fun e hm => ?_⟩ (d2.mono (by omega))
        rcases List.mem_append.mp hm with hm | hm
        · rcases List.mem_append.mp hm with hm | hm
          · exact (he.each e (cut_mem hm)).up
          · exact (he.each e (cut_mem (List.mem_reverse.mp hm))).up
        · exact (he.each e (cut_mem hm)).up
      · refine ⟨rfl, b, dk2, _, rfl, d2, ⟨Nat.succ_pos _, by show 23 < 2 ^ 60; decide⟩, fun x dk3 hx d3 => ?_⟩
        have fx : EntK (n + 1) x := by
          have all : ∀ x ∈ [PyData.tuple [.int i, .int j, .int (c + 1)], .tuple [.int i, .int j, .int (-c)], .tuple [.int i, .int j, .int 0], .tuple [.int (i + 1), .int j, .int c], .tuple [.int i, .int (j + 1), .int c], .tuple [.int i, .int j], .tuple [.int i, .int j, .int c, .int 0], .list [.int i, .int j, .int c], .none,
              .tuple [.int 17, .int 0, .int c], .tuple [.int 0, .int 17, .int 1], .tuple [.int (-1), .int j, .int c], .tuple [.int 16, .int 16, .int 1], .tuple [.int i, .bool true, .int c], .tuple [.int i, .int j, .str "1"], .tuple [.int i, .int j, .int c],
              .tuple [.int i, .int j, .bool true], .tuple [.bool true, .int j, .int c], .tuple [.bool false, .int j, .int c], .tuple [.int i, .bool false, .int c], .tuple [.bool true, .int 0, .int 1], .tuple [.none, .int j, .int c], .tuple [.int i, .str "0", .int c]], EntK (n + 1) x := by
            simp only [List.forall_mem_cons]
            refine ⟨.t3 gi gj (Ac _ (by omega)), .t3 gi gj (Ac _ (by omega)), .t3 gi gj (Ai _ (by decide)), .t3 (Ai _ (by omega)) gj gc, .t3 gi (Ai _ (by omega)) gc, ?_, ?_, ?_, Atom.non.ent, .t3 (Ai _ (by decide)) (Ai _ (by decide)) gc, .t3 (Ai _ (by decide)) (Ai _ (by decide)) (Ai _ (by decide)), .t3 (Ai _ (by decide)) gj gc, .t3 (Ai _ (by decide)) (Ai _ (by decide)) (Ai _ (by decide)), .t3 gi (.bl _) gc, .t3 gi gj (.s01 (.inr rfl)), .t3 gi gj gc, .t3 gi gj (.bl _), .t3 (.bl _) gj gc, .t3 (.bl _) gj gc, .t3 gi (.bl _) gc, .t3 (.bl _) (Ai _ (by decide)) (Ai _ (by decide)), .t3 .non gj gc, .t3 gi (.s01 (.inl rfl)) gc, fun x hx => by cases hx⟩
            · exact EntK.tup (by show 2 ≤ 4; decide) fun y hy => by
                rcases List.mem_cons.mp hy with rfl | hy
                · exact gi
                · rw [List.mem_singleton.mp hy]; exact gj
            · exact EntK.tup (by show 4 ≤ 4; decide) fun y hy => by
                rcases List.mem_cons.mp hy with rfl | hy
                · exact gi
                · rcases List.mem_cons.mp hy with rfl | hy
                  · exact gj
                  · rcases List.mem_cons.mp hy with rfl | hy
                    · exact gc
                    · rw [List.mem_singleton.mp hy]; exact Ai _ (by decide)
            · exact EntK.list (by show 3 ≤ 4; decide) fun y hy => by
                rcases List.mem_cons.mp hy with rfl | hy
                · exact gi
                · rcases List.mem_cons.mp hy with rfl | hy
                  · exact gj
                  · rw [List.mem_singleton.mp hy]; exact gc
          exact all x (by rw [ei, ej, ec0]; exact hx)
        have ed : ∃ k : Nat, ((a : Nat) : Int) + (if decide (r = 2) = true then 1 else 0) = ((a + k : Nat) : Int) := by
          by_cases z : r = 2
          · exact ⟨1, by rw [if_pos (decide_eq_true z)]; omega⟩
          · exact ⟨0, by rw [if_neg (by rw [decide_eq_false z]; exact Bool.false_ne_true)]; omega⟩
        obtain ⟨k, ek⟩ := ed
        have ck := cut_l2 es (a + k)
        refine ⟨?_, ?_, ?_⟩
        · show (cutD es none (some (a : Nat))).length + 1 ≤ _
          rw [c1]; omega
        · show (cutD es none (some (a : Nat)) ++ [x]).length + (cutD es (some (((a : Nat) : Int) + (if decide (r = 2) = true then 1 else 0))) none).length ≤ _
          rw [ek, List.length_append, c1, ck]
          show min a es.length + 1 + _ ≤ _
          omega
        · show Q (.d (.tuple (cutD es none (some (a : Nat)) ++ [x] ++ cutD es (some (((a : Nat) : Int) + (if decide (r = 2) = true then 1 else 0))) none))) _
          rw [ek]
          refine q _ dk3 ⟨?_, fun e hm => ?_⟩ d3
          · rw [List.length_append, List.length_append, c1, ck]
            show min a es.length + 1 + _ ≤ _
            omega
          · rcases List.mem_append.mp hm with hm | hm
            · rcases List.mem_append.mp hm with hm | hm
              · exact (he.each e (cut_mem hm)).up
              · rw [List.mem_singleton.mp hm]; exact fx
            · exact (he.each e (cut_mem hm)).up
  · skip
    have hi : (1 : Int).natAbs ≤ 16 := nat16
    have hj : (0 : Int).natAbs ≤ 16 := nat16'
    have hc : (1 : Int).natAbs < 2 ^ (E0 + n) := (one_E n)
    obtain ⟨i, ei⟩ : ∃ i : Int, i = 1 := ⟨_, rfl⟩
    obtain ⟨j, ej⟩ : ∃ j : Int, j = 0 := ⟨_, rfl⟩
    obtain ⟨c, ec0⟩ : ∃ c : Int, c = 1 := ⟨_, rfl⟩
    rw [← ei] at hi
    rw [← ej] at hj
    rw [← ec0] at hc
    have hl := he.len
    have Ai : ∀ k : Int, k.natAbs ≤ 20 → Atom (n + 1) (.int k) := fun k hk => Atom.small (by omega) (by omega)
    have ec : (2 : Nat) ^ (E0 + (n + 1)) = 2 ^ (E0 + n) * 2 := by rw [← Nat.add_assoc, Nat.pow_succ]
    have bE := big_E n
    have Ac : ∀ k : Int, k.natAbs ≤ c.natAbs + 1 → Atom (n + 1) (.int k) := fun k hk => Atom.int (by omega) (by rw [ec]; omega)
    have gi := Ai i (by omega)
    have gj := Ai j (by omega)
    have gc := Ac c (by omega)
    have e1 : ((a : Nat) : Int) + 1 = ((a + 1 : Nat) : Int) := by omega
    have e2 : ((a : Nat) : Int) + 2 = ((a + 2 : Nat) : Int) := by omega
    have c1 := cut_l1 es a
    have c2 := cut_l2 es (a + 1)
    have c3 := cut_l3 es a (a + 2)
    have c4 := cut_l2 es (a + 2)
    have c5 := cut_l2 es a
    refine ⟨by show 9 + 7 ≤ _; omega, by show 16 + 7 ≤ _; omega, rfl, b + 1, dk1, 4, rfl, d1, ⟨by decide, by decide⟩, fun r dk2 r0 r1 d2 => ⟨fun h => ?_, fun h => ⟨fun h2 => ?_, fun h2 => ?_⟩⟩⟩
    · refine ⟨by rw [e1, c1, c2]; omega, ?_⟩
      rw [e1]
      refine q _ dk2 ⟨by rw [List.length_append, c1, c2]; omega, fun e hm => ?_⟩ (d2.mono (by omega))
      rcases List.mem_append.mp hm with hm | hm <;> exact (he.each e (cut_mem hm)).up
    · refine ⟨by rw [List.length_reverse, e2, c1]; omega, by rw [List.length_append, List.length_reverse, e2, c1, c4]; omega, ?_⟩
      rw [e2]
      refine q _ dk2 ⟨by rw [List.length_append, List.length_append, List.length_reverse, c1, c4]; omega, fun e hm => ?_⟩ (d2.mono (by omega))
      rcases List.mem_append.mp hm with hm | hm
      · rcases List.mem_append.mp hm with hm | hm
        · exact (he.each e (cut_mem hm)).up
        · exact (he.each e (cut_mem (List.mem_reverse.mp hm))).up
      · exact (he.each e (cut_mem hm)).up
    · refine ⟨rfl, b, dk2, _, rfl, d2, ⟨Nat.succ_pos _, by show 23 < 2 ^ 60; decide⟩, fun x dk3 hx d3 => ?_⟩
      have fx : EntK (n + 1) x := by
        have all : ∀ x ∈ [PyData.tuple [.int i, .int j, .int (c + 1)], .tuple [.int i, .int j, .int (-c)], .tuple [.int i, .int j, .int 0], .tuple [.int (i + 1), .int j, .int c], .tuple [.int i, .int (j + 1), .int c], .tuple [.int i, .int j], .tuple [.int i, .int j, .int c, .int 0], .list [.int i, .int j, .int c], .none,
            .tuple [.int 17, .int 0, .int c], .tuple [.int 0, .int 17, .int 1], .tuple [.int (-1), .int j, .int c], .tuple [.int 16, .int 16, .int 1], .tuple [.int i, .bool true, .int c], .tuple [.int i, .int j, .str "1"], .tuple [.int i, .int j, .int c],
            .tuple [.int i, .int j, .bool true], .tuple [.bool true, .int j, .int c], .tuple [.bool false, .int j, .int c], .tuple [.int i, .bool false, .int c], .tuple [.bool true, .int 0, .int 1], .tuple [.none, .int j, .int c], .tuple [.int i, .str "0", .int c]], EntK (n + 1) x := by
          simp only [List.forall_mem_cons]
          refine ⟨.t3 gi gj (Ac _ (by omega)), .t3 gi gj (Ac _ (by omega)), .t3 gi gj (Ai _ (by decide)), .t3 (Ai _ (by omega)) gj gc, .t3 gi (Ai _ (by omega)) gc, ?_, ?_, ?_, Atom.non.ent, .t3 (Ai _ (by decide)) (Ai _ (by decide)) gc, .t3 (Ai _ (by decide)) (Ai _ (by decide)) (Ai _ (by decide)), .t3 (Ai _ (by decide)) gj gc, .t3 (Ai _ (by decide)) (Ai _ (by decide)) (Ai _ (by decide)), .t3 gi (.bl _) gc, .t3 gi gj (.s01 (.inr rfl)), .t3 gi gj gc, .t3 gi gj (.bl _), .t3 (.bl _) gj gc, .t3 (.bl _) gj gc, .t3 gi (.bl _) gc, .t3 (.bl _) (Ai _ (by decide)) (Ai _ (by decide)), .t3 .non gj gc, .t3 gi (.s01 (.inl rfl)) gc, fun x hx => by cases hx⟩
          · exact EntK.tup (by show 2 ≤ 4; decide) fun y hy => by
              rcases List.mem_cons.mp hy with rfl | hy
              · exact gi
              · rw [List.mem_singleton.mp hy]; exact gj
          · exact EntK.tup (by show 4 ≤ 4; decide) fun y hy => by
              rcases List.mem_cons.mp hy with rfl | hy
              · exact gi
              · rcases List.mem_cons.mp hy with rfl | hy
                · exact gj
                · rcases List.mem_cons.mp hy with rfl | hy
                  · exact gc
                  · rw [List.mem_singleton.mp hy]; exact Ai _ (by decide)
          · exact EntK.list (by show 3 ≤ 4; decide) fun y hy => by
              rcases List.mem_cons.mp hy with rfl | hy
              · exact gi
              · rcases List.mem_cons.mp hy with rfl | hy
                · exact gj
                · rw [List.mem_singleton.mp hy]; exact gc
        exact all x (by rw [ei, ej, ec0]; exact hx)
      have ed : ∃ k : Nat, ((a : Nat) : Int) + (if decide (r = 2) = true then 1 else 0) = ((a + k : Nat) : Int) := by
        by_cases z : r = 2
        · exact ⟨1, by rw [if_pos (decide_eq_true z)]; omega⟩
        · exact ⟨0, by rw [if_neg (by rw [decide_eq_false z]; exact Bool.false_ne_true)]; omega⟩
      obtain ⟨k, ek⟩ := ed
      have ck := cut_l2 es (a + k)
      refine ⟨?_, ?_, ?_⟩
      · show (cutD es none (some (a : Nat))).length + 1 ≤ _
        rw [c1]; omega
      · show (cutD es none (some (a : Nat)) ++ [x]).length + (cutD es (some (((a : Nat) : Int) + (if decide (r = 2) = true then 1 else 0))) none).length ≤ _
        rw [ek, List.length_append, c1, ck]
        show min a es.length + 1 + _ ≤ _
        omega
      · show Q (.d (.tuple (cutD es none (some (a : Nat)) ++ [x] ++ cutD es (some (((a : Nat) : Int) + (if decide (r = 2) = true then 1 else 0))) none))) _
        rw [ek]
        refine q _ dk3 ⟨?_, fun e hm => ?_⟩ d3
        · rw [List.length_append, List.length_append, c1, ck]
          show min a es.length + 1 + _ ≤ _
          omega
        · rcases List.mem_append.mp hm with hm | hm
          · rcases List.mem_append.mp hm with hm | hm
            · exact (he.each e (cut_mem hm)).up
            · rw [List.mem_singleton.mp hm]; exact fx
          · exact (he.each e (cut_mem hm)).up
def It (n : Nat) (x : PD) : Prop := (∃ es, x = .tuple es ∧ EOk n es) ∨ (isTy "tuple" x = false ∧ (Atom n x ∨ x = .list []))
def Hd (w : Str) : Prop := w = "alike" ∨ w = "parted" ∨ w = "like"
inductive V13 (n : Nat) : PD → Prop
  | ls {xs : List PD} : sml (E0 + n) (.list xs) = true → Shw 6 16500000 (.list xs) → V13 n (.list xs)
  | tp {w : Str} {r : List PD} : Hd w → 1 ≤ r.length → r.length ≤ 3 → (∀ x ∈ r, It n x) → V13 n (.tuple (.str w :: r))
theorem It.both {n : Nat} (hn : n ≤ 10) {x : PD} (h : It n x) : sml (E0 + n) x = true ∧ Shw 3 4000000 x := by
  rcases h with ⟨es, rfl, h⟩ | ⟨_, h | rfl⟩
  · exact ⟨h.sml hn, h.shw hn⟩
  · exact ⟨h.sm, h.sh.mono (by decide) (by decide)⟩
  · exact ⟨rfl, (Shw.list (n := 2) (z := 0) (xs := []) fun x hx => by cases hx).mono (Nat.le_refl _) (by decide)⟩
theorem Hd.both {w : Str} (h : Hd w) {k : Nat} : sml k (.str w) = true ∧ Shw 3 4000000 (.str w) := by
  rcases h with rfl | rfl | rfl
  · exact ⟨by rw [sml]; decide, (Shw.str (z := 20) (by decide +kernel)).mono (Nat.le_refl _) (by decide)⟩
  · exact ⟨by rw [sml]; decide, (Shw.str (z := 20) (by decide +kernel)).mono (Nat.le_refl _) (by decide)⟩
  · exact ⟨by rw [sml]; decide, (Shw.str (z := 20) (by decide +kernel)).mono (Nat.le_refl _) (by decide)⟩
theorem V13.both {n : Nat} (hn : n ≤ 10) {v : PD} (h : V13 n v) : sml (E0 + n) v = true ∧ Shw 6 16500000 v := by
  cases h with
  | ls a b => exact ⟨a, b⟩
  | @tp w r hw h1 h3 hr =>
    have hi : ∀ x ∈ (PyData.str w :: r), sml (E0 + n) x = true ∧ Shw 3 4000000 x := fun x hx => by
      rcases List.mem_cons.mp hx with rfl | hx
      · exact hw.both
      · exact (hr x hx).both hn
    have hl : (PyData.str w :: r).length ≤ 4 := by rw [List.length_cons]; omega
    refine ⟨?_, ?_⟩
    · rw [sml, Bool.and_eq_true, smlA_all, List.all_eq_true]
      exact ⟨decide_eq_true (by omega), fun x hx => (hi x hx).1⟩
    · refine (Shw.tup (z := 4000000) fun x hx => (hi x hx).2).mono (by decide) ?_
      have : (PyData.str w :: r).length * (4000000 + 2) ≤ 4 * (4000000 + 2) := Nat.mul_le_mul hl (Nat.le_refl _)
      omega
def toT (v : PD) : T3 := match v with
  | .tuple [.int a, .int b, .int c] => (a.toNat, b.toNat, c)
  | _ => (0, 0, 0)
theorem toT_row (ts : List T3) : (ts.map rowP).map toT = ts := by
  rw [List.map_map]
  have : ts.map (toT ∘ rowP) = ts.map fun t => t := by
    apply List.map_congr_left
    intro t _
    show (((t.1 : Nat) : Int).toNat, ((t.2.1 : Nat) : Int).toNat, t.2.2) = t
    rw [Int.toNat_natCast, Int.toNat_natCast]
  rw [this, List.map_id']
def wn (w : Str) (n : Int) : PD := .list [.str w, .int n]
def resD (f g : FT) (c : Nat) (v : PD) : PD := match pshape v with
  | .no => wn "shape" (-1)
  | .pt x y => if f.val x y % (c : Int) = g.val x y % (c : Int) then wn "same" (-1) else .bool true
  | .al rows => match fstBad rows with
    | some n => wn "row" (n : Nat)
    | none => if mulR c (rows.map toT) = rD (subF f g) 17 then .bool true else wn "sum" (-1)
theorem fld_w (x y : PD) : fldP (xdF ["word", "number"] [x, y]) "word" = some x := by
  show (if ("number" : Str) = "word" then _ else (if ("word" : Str) = "word" then _ else _)) = _
  rw [if_neg (by decide), if_pos rfl]
theorem fld_n (x y : PD) : fldP (xdF ["word", "number"] [x, y]) "number" = some y := by
  show (if ("number" : Str) = "number" then _ else _) = _
  rw [if_pos rfl]
structure P13 (f g : FT) (c n : Nat) (v : PD) : Prop where
  fg : FG f g (E0 + n)
  df : f.deg ≤ 16
  dg : g.deg ≤ 16
  c0 : 0 < c
  c1 : c < 2 ^ 110
  n10 : n ≤ 10
  v : V13 n v
def S_told13 : FSpec := ⟨fun args Q => ∃ (f g : FT) (c n : Nat) (v : PD), args = [.d f.pd, .d g.pd, .d (.int c), .d v] ∧ P13 f g c n v ∧ Q (.d (resD f g c v)) []⟩
abbrev N_law_told_6c3d_e : List Str := ["one", "other", "clock", "value", "e"]
def ir_law_told_6c3d_e (C_HourError : Addr) (C_NoPaper : Addr) (S_is_paper_e : XSpec) : TSt :=
  (sTry (fun u => (sRet (fCallX S_is_paper_e u (aCons (.e (dVar 0)) (aCons (.e (dVar 1)) (aCons (.e (dVar 2)) (aCons (.e (dVar 3)) aNil))))))) (⟨[(C_NoPaper, true)], some 4, fun a C d => (sRet (fD (dIte (tVal (dXi C_NoPaper true a C d 4)) (dFz (fLst (aCons (.e (dXf C_NoPaper a C d 4 "word")) (aCons (.e (dXf C_NoPaper a C d 4 "number")) aNil)))) (dFz (fLst (aCons (.e (dC (.str "other"))) aNil))))))⟩ :: []))
theorem sp_told13 (CH CP : Addr) : ∀ args Q, S_told13.sp args Q → ir_law_told_6c3d_e CH CP (S_paperX CP) (endsOf args Q) (rho0 N_law_told_6c3d_e args) := by
  rintro args Q ⟨f, g, c, n, v, rfl, hp, q⟩
  refine ⟨rfl, f, g, c, E0 + n, v, rfl, hp.fg, hp.c0, hp.c1, (hp.v.both hp.n10).1, ?_⟩
  have er : ∀ (w : Str) (k : Int), (resD f g c v = wn w k → ∃ b, (CP, b) ∈ [(CP, true)] ∧ (b = false → False) ∧ b = true) := fun w k _ => ⟨true, by simp, nofun, rfl⟩
  unfold resD at q
  cases hv : pshape v with
  | no =>
    rw [hv] at q
    exact ⟨true, List.mem_singleton.mpr rfl, nofun, fun _ a dd hd => ⟨rfl, _, rfl, fun _ => ⟨rfl, _, _, rfl, hd, fld_w _ _, rfl, _, _, rfl, hd, fld_n _ _, q⟩, nofun⟩⟩
  | pt x y =>
    rw [hv] at q
    refine ⟨fun h => ?_, fun h => ?_⟩
    · have q : Q (.d (if f.val x y % (c : Int) = g.val x y % (c : Int) then wn "same" (-1) else .bool true)) [] := q
      rw [if_pos h] at q
      exact ⟨true, List.mem_singleton.mpr rfl, nofun, fun _ a dd hd => ⟨rfl, _, rfl, fun _ => ⟨rfl, _, _, rfl, hd, fld_w _ _, rfl, _, _, rfl, hd, fld_n _ _, q⟩, nofun⟩⟩
    · have q : Q (.d (if f.val x y % (c : Int) = g.val x y % (c : Int) then wn "same" (-1) else .bool true)) [] := q
      rw [if_neg h] at q
      exact q
  | al rows =>
    rw [hv] at q
    have q : Q (.d (match fstBad rows with | some n => wn "row" (n : Nat) | none => if mulR c (rows.map toT) = rD (subF f g) 17 then .bool true else wn "sum" (-1))) [] := q
    refine ⟨fun k hk => ?_, fun ts e1 e2 e3 => ⟨fun h => ?_, fun h => ?_⟩⟩
    · rw [hk] at q
      exact ⟨true, List.mem_singleton.mpr rfl, nofun, fun _ a dd hd => ⟨rfl, _, rfl, fun _ => ⟨rfl, _, _, rfl, hd, fld_w _ _, rfl, _, _, rfl, hd, fld_n _ _, q⟩, nofun⟩⟩
    · rw [e3, e1, toT_row] at q
      have q : Q (.d (if mulR c ts = rD (subF f g) 17 then .bool true else wn "sum" (-1))) [] := q
      rw [if_pos h] at q
      exact q
    · rw [e3, e1, toT_row] at q
      have q : Q (.d (if mulR c ts = rD (subF f g) 17 then .bool true else wn "sum" (-1))) [] := q
      rw [if_neg h] at q
      exact ⟨true, List.mem_singleton.mpr rfl, nofun, fun _ a dd hd => ⟨rfl, _, rfl, fun _ => ⟨rfl, _, _, rfl, hd, fld_w _ _, rfl, _, _, rfl, hd, fld_n _ _, q⟩, nofun⟩⟩
theorem shown_al {w : Str} (h : Hd w) : decide ((PyData.str w).shown = (PyData.str "alike").shown) = decide (w = "alike") := by
  rcases h with rfl | rfl | rfl <;> decide +kernel
theorem shown_pa {w : Str} (h : Hd w) : decide ((PyData.str w).shown = (PyData.str "parted").shown) = decide (w = "parted") := by
  rcases h with rfl | rfl | rfl <;> decide +kernel
theorem sh_al : noDict (.str "alike") = true ∧ shw (.str "alike") = true ∧ (PyData.str "alike").depth ≤ 60 ∧ (PyData.str "alike").shown.length ≤ sizeLine := (Shw.str (n := 1) (z := 20) (by decide +kernel)).ok
theorem sh_pa : noDict (.str "parted") = true ∧ shw (.str "parted") = true ∧ (PyData.str "parted").depth ≤ 60 ∧ (PyData.str "parted").shown.length ≤ sizeLine := (Shw.str (n := 1) (z := 20) (by decide +kernel)).ok
def S_due13 : FSpec := ⟨fun args Q => ∃ (f g : FT) (c n : Nat) (v : PD), args = [.d f.pd, .d g.pd, .d (.int c), .d v] ∧ P13 f g c n v ∧ Q (.d (resD f g c v)) []⟩
abbrev N_law_due_4155 : List Str := ["one", "other", "clock", "value", "at", "entry", "lack"]
def ir_law_due_4155 (S_law_is_entry_6be6 : FSpec) (S_law_adds_up_a28d : FSpec) (S_law_is_whole_93bd : FSpec) (S_law_worth_98b9 : FSpec) : TSt :=
  (sSeq (sIf (tAndD (tVal (dIsi "tuple" (.s 3))) (tAndD (tVal (dBin cEq (.e (dBi bLen (aCons (.s 3) aNil))) (.e (dC (.int 2))))) (tAndD (tVal (dBin cEq (.e (dBi bRepr (aCons (.e (dBin bIx (.s 3) (.e (dC (.int 0))))) aNil))) (.e (dBi bRepr (aCons (.e (dC (.str "alike"))) aNil))))) (tVal (dIsi "tuple" (.e (dBin bIx (.s 3) (.e (dC (.int 1)))))))))) (sSeq (sFor (iRg (aCons (.e (dBi bLen (aCons (.e (dBin bIx (.s 3) (.e (dC (.int 1))))) aNil))) aNil)) (.nm 4) (sSeq (sAsg 5 (fD (dBin bIx (.e (dBin bIx (.s 3) (.e (dC (.int 1))))) (.s 4))))
    (sIf (tOrD (tNotD (tVal (dFz (fCall S_law_is_entry_6be6 (aCons (.e (dVar 5)) aNil))))) (tAndD (tVal (dBin cGt (.s 4) (.e (dC (.int 0))))) (tVal (dBin cLe2 (.e (dSl (.s 5) pNone (pSome (.e (dC (.int 2)))))) (.e (dSl (.e (dBin bIx (.e (dBin bIx (.s 3) (.e (dC (.int 1))))) (.e (dBin bSub (.s 4) (.e (dC (.int 1))))))) pNone (pSome (.e (dC (.int 2)))))))))) (sRet (fLst (aCons (.e (dC (.str "row"))) (aCons (.e (dVar 4)) aNil)))) sNext)))
    (sRet (fD (dIte (tVal (dFz (fCall S_law_adds_up_a28d (aCons (.e (dVar 0)) (aCons (.e (dVar 1)) (aCons (.e (dVar 2)) (aCons (.e (dBin bIx (.s 3) (.e (dC (.int 1))))) aNil))))))) (dC (.bool true)) (dFz (fLst (aCons (.e (dC (.str "sum"))) (aCons (.e (dNeg (.e (dC (.int 1))))) aNil)))))))) sNext)
    (sSeq (sIf (tOrD (tNotD (tVal (dIsi "tuple" (.s 3)))) (tOrD (tVal (dBin cNe (.e (dBi bLen (aCons (.s 3) aNil))) (.e (dC (.int 3))))) (tVal (dBin cNe (.e (dBi bRepr (aCons (.e (dBin bIx (.s 3) (.e (dC (.int 0))))) aNil))) (.e (dBi bRepr (aCons (.e (dC (.str "parted"))) aNil))))))) (sRet (fLst (aCons (.e (dC (.str "shape"))) (aCons (.e (dNeg (.e (dC (.int 1))))) aNil)))) sNext)
    (sSeq (sIf (tOrD (tNotD (tVal (dFz (fCall S_law_is_whole_93bd (aCons (.e (dBin bIx (.s 3) (.e (dC (.int 1))))) aNil))))) (tNotD (tVal (dFz (fCall S_law_is_whole_93bd (aCons (.e (dBin bIx (.s 3) (.e (dC (.int 2))))) aNil)))))) (sRet (fLst (aCons (.e (dC (.str "shape"))) (aCons (.e (dNeg (.e (dC (.int 1))))) aNil)))) sNext)
    (sSeq (sAsg 6 (fD (dBin bSub (.e (dFz (fCall S_law_worth_98b9 (aCons (.e (dVar 0)) (aCons (.e (dBin bIx (.s 3) (.e (dC (.int 1))))) (aCons (.e (dBin bIx (.s 3) (.e (dC (.int 2))))) aNil)))))) (.e (dFz (fCall S_law_worth_98b9 (aCons (.e (dVar 1)) (aCons (.e (dBin bIx (.s 3) (.e (dC (.int 1))))) (aCons (.e (dBin bIx (.s 3) (.e (dC (.int 2))))) aNil)))))))))
    (sRet (fD (dIte (tVal (dBin cEq (.e (dBin bMod (.s 6) (.s 2))) (.e (dC (.int 0))))) (dFz (fLst (aCons (.e (dC (.str "same"))) (aCons (.e (dNeg (.e (dC (.int 1))))) aNil)))) (dC (.bool true)))))))))
theorem sp_due13 : ∀ args Q, S_due13.sp args Q → ir_law_due_4155 S_entry S_adds S_isint8 (S_worth 17) (endsOf args Q) (rho0 N_law_due_4155 args) := by
  rintro args Q ⟨f, g, c, n, v, rfl, hp, q⟩
  have bigS : (1000 : Nat) < sizeLine := by rw [sizeLine_eq]; decide
  obtain ⟨hsm, hsh⟩ := hp.v.both hp.n10
  have fg := hp.fg
  cases hp.v with
  | ls a b => exact ⟨rfl, nofun, fun _ => ⟨nofun, fun _ => ⟨rfl, fun _ => ⟨fun _ => .inr ⟨rfl, q⟩, nofun⟩, nofun⟩⟩⟩
  | @tp w r hw h1 h3 hr =>
    have pl : ∀ x ∈ r, plainD x = true := fun x hx => sml_plain ((hr x hx).both hp.n10).1
    have wok := (hw.both (k := 1)).2.ok
    have no2 : resD f g c (.tuple (.str w :: r)) = wn "shape" (-1) → Q (.d (wn "shape" (-1))) [] := fun e => by rw [← e]; exact q
    match r, h1, h3, hr, pl, q, no2, hsm with
    | [], h1, _, _, _, _, _, _ => simp at h1
    | _ :: _ :: _ :: _ :: _, _, h3, _, _, _, _, _ => simp at h3
    | [b], _, _, hr, pl, q, no2, hsm =>
      refine ⟨rfl, fun _ => ⟨fun _ => ⟨.str w, rfl, wok, sh_al, fun hC => ⟨b, rfl, pl b (by simp), fun hD => ?_, fun hD => ?_⟩, fun hC => ⟨nofun, fun _ => ?_⟩⟩, nofun⟩, nofun⟩
      · have hC : decide ((PyData.str w).shown = (PyData.str "alike").shown) = true := hC
        rw [shown_al hw] at hC
        have hw2 := of_decide_eq_true hC
        subst hw2
        have hD : isTy "tuple" b = true := hD
        rcases hr b (by simp) with ⟨rows, rfl, ho⟩ | ⟨h0, _⟩
        rotate_left
        · rw [h0] at hD; cases hD
        have hl := ho.len
        have n10 := hp.n10
        have er : resD f g c (.tuple [.str "alike", .tuple rows]) = (match fstBad rows with
          | some n => wn "row" (n : Nat)
          | none => if mulR c (rows.map toT) = rD (subF f g) 17 then .bool true else wn "sum" (-1)) := by unfold resD; rw [pshape_al]
        rw [er] at q
        clear no2 er
        refine ⟨.tuple rows, rfl, by show -2 ^ 62 ≤ ((rows.length : Nat) : Int) ∧ ((rows.length : Nat) : Int) < 2 ^ 62; omega, _, rfl, fun k ρ => (∃ s4 s5, ρ = [some (.d f.pd), some (.d g.pd), some (.d (.int (c : Nat))), some (.d (.tuple [.str "alike", .tuple rows])), s4, s5, none]) ∧ ∀ j, j < k → badAt rows j = false, ⟨⟨none, none, rfl⟩, fun k hk => absurd hk (Nat.not_lt_zero _)⟩, ?_, ?_⟩
        · rintro k y ρ hy ⟨⟨s4, s5, rfl⟩, hb⟩
          obtain ⟨rfl, hk⟩ := rngD_get hy
          have hk : k < rows.length := by have : k < ((rows.length : Nat) : Int).toNat := hk; omega
          have e0 : (0 : Int) + ((k : Nat) : Int) = ((k : Nat) : Int) := by omega
          rw [e0]
          obtain ⟨v, hv⟩ : ∃ v, rows[k]? = some v := ⟨_, List.getElem?_eq_getElem hk⟩
          have hm := ho.each v (List.mem_of_getElem? hv)
          have row : badAt rows k = true → Q (.d (wn "row" (k : Nat))) [] := fun h => by rw [fst_bad hk h hb] at q; exact q
          clear q
          refine ⟨.tuple rows, rfl, v, atI_nat hv, rfl, v, E0 + n, rfl, hm.sm, fun h => ?_, fun h => ?_⟩
          · have h : (!isEnt v) = true := h
            refine ⟨fun _ => .inr ⟨rfl, row ?_⟩, nofun⟩
            unfold badAt
            rw [hv]
            show (!isTri v || _) = true
            cases ht : isTri v with
            | false => rfl
            | true =>
              obtain ⟨t, rfl, t1, t2⟩ := isTri_some ht
              rw [ent_row t1 t2] at h
              have h : t.2.2 = 0 := by simpa using h
              show (false || (decide (t.2.2 = 0) || _)) = true
              rw [decide_eq_true h]; rfl
          · have h : (!isEnt v) = false := h
            obtain ⟨t, rfl, t1, t2, t3⟩ := ent_some (v := v) (by simpa using h)
            have bz : badAt rows k = (decide (0 < k) && lowAt rows (k - 1) (t.1 : Nat) (t.2.1 : Nat)) := by
              have ht : isTri (rowP t) = true := by
                have := ent_row t1 t2
                unfold isEnt at this
                have h2 : isEnt (rowP t) = true := by rw [ent_row t1 t2]; simpa using t3
                unfold isEnt at h2
                rw [Bool.and_eq_true] at h2
                exact h2.1
              unfold badAt; rw [hv]
              show (!isTri (rowP t) || (decide (t.2.2 = 0) || _)) = _
              rw [ht, decide_eq_false t3]; rfl
            have next : badAt rows k = false → ∀ j, j < k + 1 → badAt rows j = false := fun z j hj => by
              rcases Nat.lt_or_ge j k with w | w
              · exact hb j w
              · rw [show j = k by omega]; exact z
            refine ⟨fun h => ?_, fun h => ⟨nofun, fun _ => ⟨⟨_, _, rfl⟩, next ?_⟩⟩⟩
            · have h : (0 : Int) < (k : Nat) := of_decide_eq_true h
              have hn0 : 0 < k := by omega
              have hk1 := List.getElem?_eq_getElem (l := rows) (i := k - 1) (by omega)
              obtain ⟨t', e', t1', t2'⟩ := fine_tri (hb (k - 1) (by omega)) hk1
              have ez : ((k : Nat) : Int) - 1 = ((k - 1 : Nat) : Int) := by omega
              have ea : atI rows (((k : Nat) : Int) - 1) = some (rowP t') := by rw [ez]; exact atI_nat (hk1.trans (by rw [e']))
              have el : lowAt rows (k - 1) (t.1 : Nat) (t.2.1 : Nat) = decide (lexLe ((t.1 : Nat), (t.2.1 : Nat)) ((t'.1 : Nat), (t'.2.1 : Nat))) := by
                unfold lowAt; rw [hk1, e']; rfl
              rw [decide_eq_true hn0, Bool.true_and, el] at bz
              refine ⟨.tuple rows, rfl, rowP t', ea, ((t.1 : Nat), (t.2.1 : Nat)), ((t'.1 : Nat), (t'.2.1 : Nat)), rfl, rfl, fun h => ?_, fun h => ?_⟩
              · exact .inr ⟨rfl, row (by rw [bz]; exact h)⟩
              · exact ⟨⟨_, _, rfl⟩, next (by rw [bz]; exact h)⟩
            · have h : ¬ (0 : Int) < (k : Nat) := of_decide_eq_false h
              have : ¬ 0 < k := by omega
              rw [bz, decide_eq_false this, Bool.false_and]
        · rintro ρ ⟨⟨s4, s5, rfl⟩, hb⟩
          have hb : ∀ k, k < (rngD 0 ((rows.length : Nat) : Int).toNat).length → badAt rows k = false := hb
          rw [rngD_len] at hb
          have hb : ∀ k, k < rows.length → badAt rows k = false := fun k hk => hb k (by omega)
          obtain ⟨ts, rfl, hts⟩ := fine_rows (rs := rows) fun v hv => by
            obtain ⟨k, hk⟩ := List.mem_iff_getElem?.mp hv
            exact fine_tri (hb k (List.getElem?_eq_some_iff.mp hk).1) hk
          have fn := fst_fine hb
          obtain ⟨asc, nz⟩ := fstBad_none fn
          rw [fn, toT_row] at q
          have q : Q (.d (if mulR c ts = rD (subF f g) 17 then .bool true else wn "sum" (-1))) [] := q
          refine ⟨.tuple (ts.map rowP), rfl, rfl, f, g, c, E0 + n, ts, rfl, ⟨fg, hp.df, hp.dg, hp.c0, hp.c1, ho.sml n10, hts, asc, nz⟩, fun h => ⟨fun _ => ?_, nofun⟩, fun h => ⟨nofun, fun _ => ?_⟩⟩
          · rw [if_pos h] at q; exact q
          · rw [if_neg h] at q; exact q
      · have hD : isTy "tuple" b = false := hD
        have e : resD f g c (.tuple [.str w, b]) = wn "shape" (-1) := by unfold resD; rw [pshape_2 fun z => by have := z.2; rw [hD] at this; cases this]
        exact ⟨rfl, nofun, fun _ => ⟨fun _ => ⟨fun _ => .inr ⟨rfl, no2 e⟩, nofun⟩, nofun⟩⟩
      · have hC : decide ((PyData.str w).shown = (PyData.str "alike").shown) = false := hC
        rw [shown_al hw] at hC
        have hw2 := of_decide_eq_false hC
        have e : resD f g c (.tuple [.str w, b]) = wn "shape" (-1) := by unfold resD; rw [pshape_2 fun z => hw2 z.1]
        exact ⟨rfl, nofun, fun _ => ⟨fun _ => ⟨fun _ => .inr ⟨rfl, no2 e⟩, nofun⟩, nofun⟩⟩
    | [b, c2], _, _, hr, pl, q, no2, hsm =>
      refine ⟨rfl, fun _ => ⟨nofun, fun _ => ⟨nofun, fun _ => ⟨rfl, nofun, fun _ => ⟨nofun, fun _ => ⟨.str w, rfl, wok, sh_pa, fun hN => ?_, fun hN => ?_⟩⟩⟩⟩⟩, nofun⟩
      · have hN : (!decide ((PyData.str w).shown = (PyData.str "parted").shown)) = true := hN
        rw [shown_pa hw] at hN
        have e : resD f g c (.tuple [.str w, b, c2]) = wn "shape" (-1) := by unfold resD; rw [pshape_3 fun z => by rw [z.1] at hN; exact absurd hN (by simp)]
        exact .inr ⟨rfl, no2 e⟩
      · have hN : (!decide ((PyData.str w).shown = (PyData.str "parted").shown)) = false := hN
        rw [shown_pa hw] at hN
        have hw2 : w = "parted" := by simpa using hN
        subst hw2
        refine ⟨b, rfl, rfl, b, rfl, pl b (by simp), fun h4 => ⟨fun _ => ?_, nofun⟩, fun h4 => ⟨c2, rfl, rfl, c2, rfl, pl c2 (by simp), fun h5 => ?_, fun h5 => ?_⟩⟩
        · have h4 : (!isI b) = true := h4
          have e : resD f g c (.tuple [.str "parted", b, c2]) = wn "shape" (-1) := by unfold resD; rw [pshape_3 fun z => by rw [z.2.1] at h4; cases h4]
          exact .inr ⟨rfl, no2 e⟩
        · have h5 : (!isI c2) = true := h5
          have e : resD f g c (.tuple [.str "parted", b, c2]) = wn "shape" (-1) := by unfold resD; rw [pshape_3 fun z => by rw [z.2.2] at h5; cases h5]
          exact .inr ⟨rfl, no2 e⟩
        · obtain ⟨x, rfl⟩ := isI_int (v := b) (by simpa using h4)
          obtain ⟨y, rfl⟩ := isI_int (v := c2) (by simpa using h5)
          have hx1 := sml_int (((hr (.int x) (by simp)).both hp.n10).1)
          have hy1 := sml_int (((hr (.int y) (by simp)).both hp.n10).1)
          have e : resD f g c (.tuple [.str "parted", .int x, .int y]) = (if f.val x y % (c : Int) = g.val x y % (c : Int) then wn "same" (-1) else .bool true) := by unfold resD; rw [pshape_pt]
          rw [e] at q
          have c0 := hp.c0
          refine ⟨.int x, rfl, .int y, rfl, rfl, f, x, y, E0 + n, rfl, fg.l1, fg.o1, hx1, hy1, .int x, rfl, .int y, rfl, rfl, g, x, y, E0 + n, rfl, fg.l2, fg.o2, hx1, hy1, by omega, fun h => ?_, fun h => ?_⟩
          · have h : (f.val x y - g.val x y) % (c : Int) = 0 := of_decide_eq_true h
            rw [if_pos (Int.emod_eq_emod_iff_emod_sub_eq_zero.mpr h)] at q
            exact q
          · have h : ¬ (f.val x y - g.val x y) % (c : Int) = 0 := of_decide_eq_false h
            rw [if_neg fun z => h (Int.emod_eq_emod_iff_emod_sub_eq_zero.mp z)] at q
            exact q
    | [b, c2, d], _, _, hr, pl, q, no2, hsm =>
      have e : resD f g c (.tuple [.str w, b, c2, d]) = wn "shape" (-1) := by
        have : pshape (.tuple [.str w, b, c2, d]) = .no := by
          unfold pshape
          split
          · rename_i e; cases e
          · rename_i e; cases e
          · rfl
        unfold resD; rw [this]
      exact ⟨rfl, fun _ => ⟨nofun, fun _ => ⟨nofun, fun _ => ⟨rfl, nofun, fun _ => ⟨fun _ => ⟨fun _ => .inr ⟨rfl, no2 e⟩, nofun⟩, nofun⟩⟩⟩⟩, nofun⟩
theorem ten200 : intText? ("1" ++ repS "0" 200) = some (10 ^ 200) ∧ (("1" : Str) ++ repS "0" 200).length ≤ 640 := by
  have hr : (repS "0" 200).cps.toList = List.replicate 200 48 := by
    unfold repS
    rw [if_neg (by decide)]
    show ((List.replicate 200 ("0" : PySem.Str).cps).foldl (· ++ ·) #[]).toList = _
    rw [fold_list, show ("0" : PySem.Str).cps.toList = [48] from by decide]
    decide +kernel
  have hl : (("1" : Str) ++ repS "0" 200).cps.toList = 49 :: List.replicate 200 48 := by
    show (("1" : Str).cps ++ (repS "0" 200).cps).toList = _
    rw [Array.toList_append, hr, show ("1" : PySem.Str).cps.toList = [49] from by decide]
    rfl
  have ln : (("1" : Str) ++ repS "0" 200).length = 201 := by
    have : (("1" : Str) ++ repS "0" 200).cps.toList.length = 201 := by rw [hl, List.length_cons, List.length_replicate]
    exact this
  have e := intText_digits (x := ("1" : Str) ++ repS "0" 200) (by rw [hl]; intro c hc; rcases List.mem_cons.mp hc with rfl | hc; exact (by decide); rw [List.eq_of_mem_replicate hc]; decide) (by rw [hl]; simp) (by rw [ln]; decide)
  rw [e, hl, ln]
  exact ⟨congrArg some (by decide +kernel), by decide⟩
theorem str_cat_len (a b : Str) : (a ++ b).length = a.length + b.length := by
  show (a.cps ++ b.cps).size = _
  rw [Array.size_append]; rfl
theorem It.at {n : Nat} {x : PD} (h : Atom n x) (h2 : isTy "tuple" x = false) : It n x := .inr ⟨h2, .inl h⟩
theorem It.nl {n : Nat} : It n (.list []) := .inr ⟨rfl, .inr rfl⟩
theorem It.nt {n : Nat} : It n (.tuple []) := .inl ⟨[], rfl, ⟨Nat.zero_le _, fun x hx => by cases hx⟩⟩
theorem V13.t1 {n : Nat} {w : Str} {a : PD} (hw : Hd w) (ha : It n a) : V13 n (.tuple [.str w, a]) := .tp hw (by simp) (by simp) fun x hx => by rw [List.mem_singleton.mp hx]; exact ha
theorem V13.t2 {n : Nat} {w : Str} {a b : PD} (hw : Hd w) (ha : It n a) (hb : It n b) : V13 n (.tuple [.str w, a, b]) := .tp hw (by simp) (by simp) fun x hx => by
  rcases List.mem_cons.mp hx with rfl | hx
  · exact ha
  · rw [List.mem_singleton.mp hx]; exact hb
theorem V13.t3 {n : Nat} {w : Str} {a b c : PD} (hw : Hd w) (ha : It n a) (hb : It n b) (hc : It n c) : V13 n (.tuple [.str w, a, b, c]) := .tp hw (by simp) (by simp) fun x hx => by
  rcases List.mem_cons.mp hx with rfl | hx
  · exact ha
  · rcases List.mem_cons.mp hx with rfl | hx
    · exact hb
    · rw [List.mem_singleton.mp hx]; exact hc
theorem hdA : Hd "alike" := .inl rfl
theorem hdP : Hd "parted" := .inr (.inl rfl)
theorem hdL : Hd "like" := .inr (.inr rfl)
def S_bent13 : FSpec := ⟨fun args Q => ∃ (b : Nat) (dk : List PD) (n : Nat) (w : Str) (r : List PD), args = [.ls (some 0) dk, .d (.tuple (.str w :: r))] ∧ Dk (b + 10) dk ∧ n ≤ 9 ∧ V13 n (.tuple (.str w :: r)) ∧ ∀ v' dk', V13 (n + 1) v' → Dk b dk' → Q (.d v') [.ls (some 0) dk']⟩
abbrev N_law_bent_aa32 : List Str := ["deck", "value", "x", "y", "some"]
def ir_law_bent_aa32 (S_law_draw_a51a : FSpec) (S_law_bent_entries_5bbe : FSpec) (S_law_one_90da : FSpec) : TSt :=
  (sSeq (sIf (tAndD (tVal (dBin cEq (.e (dBin bIx (.s 1) (.e (dC (.int 0))))) (.e (dC (.str "alike"))))) (tAndD (tVal (dIsi "tuple" (.e (dBin bIx (.s 1) (.e (dC (.int 1))))))) (tVal (dBin cGt (.e (dFz (fCall S_law_draw_a51a (aCons (.s 0) (aCons (.e (dC (.int 5))) aNil))))) (.e (dC (.int 0))))))) (sRet (fD (dTup (aCons (.e (dC (.str "alike"))) (aCons (.e (dFz (fCall S_law_bent_entries_5bbe (aCons (.s 0) (aCons (.e (dBin bIx (.s 1) (.e (dC (.int 1))))) aNil))))) aNil))))) sNext)
    (sSeq (sPar 2 3 (fD (dBin bSub (.e (dFz (fCall S_law_draw_a51a (aCons (.s 0) (aCons (.e (dC (.int 40))) aNil))))) (.e (dC (.int 20))))) (fD (dBin bSub (.e (dFz (fCall S_law_draw_a51a (aCons (.s 0) (aCons (.e (dC (.int 40))) aNil))))) (.e (dC (.int 20))))))
    (sSeq (sAsg 4 (fLst (aCons (.e (dTup (aCons (.e (dC (.str "parted"))) (aCons (.e (dVar 2)) (aCons (.e (dVar 3)) aNil))))) (aCons (.e (dTup (aCons (.e (dC (.str "parted"))) (aCons (.e (dBin bAdd (.e (dBi bIntS (aCons (.e (dBin bAdd (.e (dC (.str "1"))) (.e (dBin bRepS (.e (dC (.str "0"))) (.e (dC (.int 200))))))) aNil))) (.s 2))) (aCons (.e (dVar 3)) aNil))))) (aCons (.e (dTup (aCons (.e (dC (.str "parted"))) (aCons (.e (dVar 2)) aNil)))) (aCons (.e (dTup (aCons (.e (dC (.str "parted"))) (aCons (.e (dVar 2)) (aCons (.e (dVar 3)) (aCons (.e (dC (.int 0))) aNil)))))) aNil))))))
    (sSeq (sAsg 4 (fD (dBin bAdd (.s 4) (.e (dFz (fLst (aCons (.e (dTup (aCons (.e (dC (.str "parted"))) (aCons (.e (dC (.bool true))) (aCons (.e (dVar 3)) aNil))))) (aCons (.e (dTup (aCons (.e (dC (.str "alike"))) (aCons (.e (dTup aNil)) aNil)))) aNil))))))))
    (sSeq (sAsg 4 (fD (dBin bAdd (.s 4) (.e (dFz (fLst (aCons (.e (dTup (aCons (.e (dC (.str "alike"))) (aCons (.e (dFz (fLst aNil))) (aCons (.e (dTup aNil)) aNil))))) (aCons (.e (dTup (aCons (.e (dC (.str "alike"))) (aCons (.e (dFz (fLst aNil))) aNil)))) (aCons (.e (dTup (aCons (.e (dC (.str "like"))) (aCons (.e (dTup aNil)) aNil)))) (aCons (.e (dTup (aCons (.e (dC (.str "parted"))) (aCons (.e (dTup aNil)) aNil)))) (aCons (.e (dFz (fList (aCons (.s 1) aNil)))) (aCons (.e (dTup (aCons (.e (dC (.str "alike"))) (aCons (.e (dTup (aCons (.e (dTup (aCons (.e (dC (.int 0))) (aCons (.e (dC (.int 0))) (aCons (.e (dVar 2)) aNil))))) aNil))) aNil)))) aNil))))))))))))
    (sRet (fCall S_law_one_90da (aCons (.s 0) (aCons (.e (dVar 4)) aNil)))))))))
theorem sp_bent13 : ∀ args Q, S_bent13.sp args Q → ir_law_bent_aa32 S_draw S_bentE S_one (endsOf args Q) (rho0 N_law_bent_aa32 args) := by
  rintro args Q ⟨b, dk, n, w, r, rfl, hd, hn, hv, q⟩
  have bigS : (1000 : Nat) < sizeLine := by rw [sizeLine_eq]; decide
  have hvb := hv.both (by omega)
  obtain ⟨hw, h1, h3, hr⟩ : Hd w ∧ 1 ≤ r.length ∧ r.length ≤ 3 ∧ ∀ x ∈ r, It n x := by
    cases hv with
    | tp hw h1 h3 hr => exact ⟨hw, h1, h3, hr⟩
  obtain ⟨a, r', rfl⟩ : ∃ a r', r = a :: r' := by
    cases r with
    | nil => simp at h1
    | cons a r' => exact ⟨a, r', rfl⟩
  have ia := hr a (by simp)
  have rest : ∀ (dk1 : List PD), Dk (b + 4) dk1 → ∀ x, x = 1 → True := fun _ _ _ _ => trivial
  refine ⟨.str w, atI_nat (j := 0) rfl, fun hA => ⟨a, atI_nat (j := 1) rfl, sml_plain (ia.both (by omega)).1, fun hT => ⟨rfl, b + 9, dk, 5, rfl, hd, ⟨by decide, by decide⟩, fun r0 dk1 a0 a1 d1 => ⟨fun hG => ?_, fun hG => ?_⟩⟩, fun hT => ⟨nofun, fun _ => ?_⟩⟩, fun hA => ⟨nofun, fun _ => ?_⟩⟩
  · have hT : isTy "tuple" a = true := hT
    rcases ia with ⟨es, rfl, he⟩ | ⟨h0, _⟩
    rotate_left
    · rw [h0] at hT; cases hT
    refine ⟨.tuple es, atI_nat (j := 1) rfl, rfl, b, dk1, n, es, rfl, d1.mono (by omega), hn, he, fun es' dk2 he2 d2 => ?_⟩
    exact q _ dk2 (.t1 hdA (.inl ⟨es', rfl, he2⟩)) d2
  · skip
    obtain ⟨dkX, dX⟩ : ∃ dk', dk' = dk1 ∧ Dk (b + 4) dk1 := ⟨_, rfl, d1.mono (by omega)⟩
    refine ⟨rfl, b + 3, dk1, 40, rfl, dX.2, ⟨by decide, by decide⟩, fun rx dk2 x0 x1 d2 => ⟨rfl, b + 2, dk2, 40, rfl, d2.mono (by omega), ⟨by decide, by decide⟩, fun ry dk3 y0 y1 d3 => ?_⟩⟩
    have gx : ∀ k : Int, k.natAbs < 2 ^ 100 → It (n + 1) (.int k) := fun k hk => It.at (Atom.small (by omega) hk) rfl
    have ix := gx (rx - 20) (by omega)
    have iy := gx (ry - 20) (by omega)
    have ib : It (n + 1) (.int (10 ^ 200 + (rx - 20))) := It.at (Atom.int (by omega) (Nat.lt_of_lt_of_le (show (10 ^ 200 + (rx - 20) : Int).natAbs < 2 ^ 700 by omega) (Nat.pow_le_pow_right (by decide) (by show 700 ≤ 3200 + (n + 1); omega)))) rfl
    refine ⟨⟨by decide, by decide, by decide⟩, by show 1 + (repS "0" 200).length ≤ _; have := ten200.2; have e : (("1" : Str) ++ repS "0" 200).length = 1 + (repS "0" 200).length := str_cat_len _ _; omega, 10 ^ 200, ten200.1, ten200.2, ?_⟩
    refine ⟨by show 4 + 2 ≤ _; omega, by show 6 + 6 ≤ _; omega, ?_⟩
    refine ⟨rfl, b, dk3, _, rfl, d3.mono (by omega), ⟨Nat.succ_pos _, by show 12 < 2 ^ 60; decide⟩, fun x dk4 hx d4 => ?_⟩
    refine q x dk4 ?_ d4
    have e0 : It (n + 1) (.tuple [.tuple [.int 0, .int 0, .int (rx - 20)]]) := .inl ⟨_, rfl, ⟨by show 1 ≤ 290 + (n + 1); omega, fun z hz => by rw [List.mem_singleton.mp hz]; exact .t3 (Atom.small (by omega) (by decide)) (Atom.small (by omega) (by decide)) (Atom.small (by omega) (by omega))⟩⟩
    have el : V13 (n + 1) (.list (.str w :: a :: r')) := by
      have hi : ∀ x ∈ (PyData.str w :: a :: r'), sml (E0 + n) x = true ∧ Shw 3 4000000 x := fun x hx => by
        rcases List.mem_cons.mp hx with rfl | hx
        · exact hw.both
        · exact (hr x hx).both (by omega)
      have hl : (PyData.str w :: a :: r').length ≤ 4 := by rw [List.length_cons]; omega
      refine .ls (sml_up _ _ ?_) ?_
      · rw [sml, Bool.and_eq_true, smlA_all, List.all_eq_true]
        exact ⟨decide_eq_true (by omega), fun x hx => (hi x hx).1⟩
      · refine (Shw.list (z := 4000000) fun x hx => (hi x hx).2).mono (by decide) ?_
        have : (PyData.str w :: a :: r').length * (4000000 + 2) ≤ 4 * (4000000 + 2) := Nat.mul_le_mul hl (Nat.le_refl _)
        omega
    have all : ∀ x ∈ [PyData.tuple [.str "parted", .int (rx - 20), .int (ry - 20)], .tuple [.str "parted", .int (10 ^ 200 + (rx - 20)), .int (ry - 20)], .tuple [.str "parted", .int (rx - 20)], .tuple [.str "parted", .int (rx - 20), .int (ry - 20), .int 0],
        .tuple [.str "parted", .bool true, .int (ry - 20)], .tuple [.str "alike", .tuple []], .tuple [.str "alike", .list [], .tuple []], .tuple [.str "alike", .list []], .tuple [.str "like", .tuple []], .tuple [.str "parted", .tuple []], .list (.str w :: a :: r'), .tuple [.str "alike", .tuple [.tuple [.int 0, .int 0, .int (rx - 20)]]]], V13 (n + 1) x := by
      simp only [List.forall_mem_cons]
      exact ⟨.t2 hdP ix iy, .t2 hdP ib iy, .t1 hdP ix, .t3 hdP ix iy (gx 0 (by decide)), .t2 hdP (.at (.bl _) rfl) iy, .t1 hdA .nt, .t2 hdA .nl .nt, .t1 hdA .nl, .t1 hdL .nt, .t1 hdP .nt, el, .t1 hdA e0, fun x hx => by cases hx⟩
    exact all x hx
  · skip
    obtain ⟨dkX, dX⟩ : ∃ dk', dk' = dk ∧ Dk (b + 4) dk := ⟨_, rfl, hd.mono (by omega)⟩
    refine ⟨rfl, b + 3, dk, 40, rfl, dX.2, ⟨by decide, by decide⟩, fun rx dk2 x0 x1 d2 => ⟨rfl, b + 2, dk2, 40, rfl, d2.mono (by omega), ⟨by decide, by decide⟩, fun ry dk3 y0 y1 d3 => ?_⟩⟩
    have gx : ∀ k : Int, k.natAbs < 2 ^ 100 → It (n + 1) (.int k) := fun k hk => It.at (Atom.small (by omega) hk) rfl
    have ix := gx (rx - 20) (by omega)
    have iy := gx (ry - 20) (by omega)
    have ib : It (n + 1) (.int (10 ^ 200 + (rx - 20))) := It.at (Atom.int (by omega) (Nat.lt_of_lt_of_le (show (10 ^ 200 + (rx - 20) : Int).natAbs < 2 ^ 700 by omega) (Nat.pow_le_pow_right (by decide) (by show 700 ≤ 3200 + (n + 1); omega)))) rfl
    refine ⟨⟨by decide, by decide, by decide⟩, by show 1 + (repS "0" 200).length ≤ _; have := ten200.2; have e : (("1" : Str) ++ repS "0" 200).length = 1 + (repS "0" 200).length := str_cat_len _ _; omega, 10 ^ 200, ten200.1, ten200.2, ?_⟩
    refine ⟨by show 4 + 2 ≤ _; omega, by show 6 + 6 ≤ _; omega, ?_⟩
    refine ⟨rfl, b, dk3, _, rfl, d3.mono (by omega), ⟨Nat.succ_pos _, by show 12 < 2 ^ 60; decide⟩, fun x dk4 hx d4 => ?_⟩
    refine q x dk4 ?_ d4
    have e0 : It (n + 1) (.tuple [.tuple [.int 0, .int 0, .int (rx - 20)]]) := .inl ⟨_, rfl, ⟨by show 1 ≤ 290 + (n + 1); omega, fun z hz => by rw [List.mem_singleton.mp hz]; exact .t3 (Atom.small (by omega) (by decide)) (Atom.small (by omega) (by decide)) (Atom.small (by omega) (by omega))⟩⟩
    have el : V13 (n + 1) (.list (.str w :: a :: r')) := by
      have hi : ∀ x ∈ (PyData.str w :: a :: r'), sml (E0 + n) x = true ∧ Shw 3 4000000 x := fun x hx => by
        rcases List.mem_cons.mp hx with rfl | hx
        · exact hw.both
        · exact (hr x hx).both (by omega)
      have hl : (PyData.str w :: a :: r').length ≤ 4 := by rw [List.length_cons]; omega
      refine .ls (sml_up _ _ ?_) ?_
      · rw [sml, Bool.and_eq_true, smlA_all, List.all_eq_true]
        exact ⟨decide_eq_true (by omega), fun x hx => (hi x hx).1⟩
      · refine (Shw.list (z := 4000000) fun x hx => (hi x hx).2).mono (by decide) ?_
        have : (PyData.str w :: a :: r').length * (4000000 + 2) ≤ 4 * (4000000 + 2) := Nat.mul_le_mul hl (Nat.le_refl _)
        omega
    have all : ∀ x ∈ [PyData.tuple [.str "parted", .int (rx - 20), .int (ry - 20)], .tuple [.str "parted", .int (10 ^ 200 + (rx - 20)), .int (ry - 20)], .tuple [.str "parted", .int (rx - 20)], .tuple [.str "parted", .int (rx - 20), .int (ry - 20), .int 0],
        .tuple [.str "parted", .bool true, .int (ry - 20)], .tuple [.str "alike", .tuple []], .tuple [.str "alike", .list [], .tuple []], .tuple [.str "alike", .list []], .tuple [.str "like", .tuple []], .tuple [.str "parted", .tuple []], .list (.str w :: a :: r'), .tuple [.str "alike", .tuple [.tuple [.int 0, .int 0, .int (rx - 20)]]]], V13 (n + 1) x := by
      simp only [List.forall_mem_cons]
      exact ⟨.t2 hdP ix iy, .t2 hdP ib iy, .t1 hdP ix, .t3 hdP ix iy (gx 0 (by decide)), .t2 hdP (.at (.bl _) rfl) iy, .t1 hdA .nt, .t2 hdA .nl .nt, .t1 hdA .nl, .t1 hdL .nt, .t1 hdP .nt, el, .t1 hdA e0, fun x hx => by cases hx⟩
    exact all x hx
  · skip
    obtain ⟨dkX, dX⟩ : ∃ dk', dk' = dk ∧ Dk (b + 4) dk := ⟨_, rfl, hd.mono (by omega)⟩
    refine ⟨rfl, b + 3, dk, 40, rfl, dX.2, ⟨by decide, by decide⟩, fun rx dk2 x0 x1 d2 => ⟨rfl, b + 2, dk2, 40, rfl, d2.mono (by omega), ⟨by decide, by decide⟩, fun ry dk3 y0 y1 d3 => ?_⟩⟩
    have gx : ∀ k : Int, k.natAbs < 2 ^ 100 → It (n + 1) (.int k) := fun k hk => It.at (Atom.small (by omega) hk) rfl
    have ix := gx (rx - 20) (by omega)
    have iy := gx (ry - 20) (by omega)
    have ib : It (n + 1) (.int (10 ^ 200 + (rx - 20))) := It.at (Atom.int (by omega) (Nat.lt_of_lt_of_le (show (10 ^ 200 + (rx - 20) : Int).natAbs < 2 ^ 700 by omega) (Nat.pow_le_pow_right (by decide) (by show 700 ≤ 3200 + (n + 1); omega)))) rfl
    refine ⟨⟨by decide, by decide, by decide⟩, by show 1 + (repS "0" 200).length ≤ _; have := ten200.2; have e : (("1" : Str) ++ repS "0" 200).length = 1 + (repS "0" 200).length := str_cat_len _ _; omega, 10 ^ 200, ten200.1, ten200.2, ?_⟩
    refine ⟨by show 4 + 2 ≤ _; omega, by show 6 + 6 ≤ _; omega, ?_⟩
    refine ⟨rfl, b, dk3, _, rfl, d3.mono (by omega), ⟨Nat.succ_pos _, by show 12 < 2 ^ 60; decide⟩, fun x dk4 hx d4 => ?_⟩
    refine q x dk4 ?_ d4
    have e0 : It (n + 1) (.tuple [.tuple [.int 0, .int 0, .int (rx - 20)]]) := .inl ⟨_, rfl, ⟨by show 1 ≤ 290 + (n + 1); omega, fun z hz => by rw [List.mem_singleton.mp hz]; exact .t3 (Atom.small (by omega) (by decide)) (Atom.small (by omega) (by decide)) (Atom.small (by omega) (by omega))⟩⟩
    have el : V13 (n + 1) (.list (.str w :: a :: r')) := by
      have hi : ∀ x ∈ (PyData.str w :: a :: r'), sml (E0 + n) x = true ∧ Shw 3 4000000 x := fun x hx => by
        rcases List.mem_cons.mp hx with rfl | hx
        · exact hw.both
        · exact (hr x hx).both (by omega)
      have hl : (PyData.str w :: a :: r').length ≤ 4 := by rw [List.length_cons]; omega
      refine .ls (sml_up _ _ ?_) ?_
      · rw [sml, Bool.and_eq_true, smlA_all, List.all_eq_true]
        exact ⟨decide_eq_true (by omega), fun x hx => (hi x hx).1⟩
      · refine (Shw.list (z := 4000000) fun x hx => (hi x hx).2).mono (by decide) ?_
        have : (PyData.str w :: a :: r').length * (4000000 + 2) ≤ 4 * (4000000 + 2) := Nat.mul_le_mul hl (Nat.le_refl _)
        omega
    have all : ∀ x ∈ [PyData.tuple [.str "parted", .int (rx - 20), .int (ry - 20)], .tuple [.str "parted", .int (10 ^ 200 + (rx - 20)), .int (ry - 20)], .tuple [.str "parted", .int (rx - 20)], .tuple [.str "parted", .int (rx - 20), .int (ry - 20), .int 0],
        .tuple [.str "parted", .bool true, .int (ry - 20)], .tuple [.str "alike", .tuple []], .tuple [.str "alike", .list [], .tuple []], .tuple [.str "alike", .list []], .tuple [.str "like", .tuple []], .tuple [.str "parted", .tuple []], .list (.str w :: a :: r'), .tuple [.str "alike", .tuple [.tuple [.int 0, .int 0, .int (rx - 20)]]]], V13 (n + 1) x := by
      simp only [List.forall_mem_cons]
      exact ⟨.t2 hdP ix iy, .t2 hdP ib iy, .t1 hdP ix, .t3 hdP ix iy (gx 0 (by decide)), .t2 hdP (.at (.bl _) rfl) iy, .t1 hdA .nt, .t2 hdA .nl .nt, .t1 hdA .nl, .t1 hdL .nt, .t1 hdP .nt, el, .t1 hdA e0, fun x hx => by cases hx⟩
    exact all x hx
theorem fg13 {f g : FT} (hf : f.ok2) (hg : g.ok2) {k : Nat} (hk : k ≤ 10) : FG f g (E0 + k) := by
  have o1 := hf.ok (m := E0 + k) (by show 140 ≤ 3200 + k; omega) (by show 3200 + k ≤ 4000; omega)
  have o2 := hg.ok (m := E0 + k) (by show 140 ≤ 3200 + k; omega) (by show 3200 + k ≤ 4000; omega)
  refine ⟨hf.1, hg.1, o1, o2, ⟨⟨o1.1, o2.1⟩, ?_⟩, by show 10 ≤ 3200 + k; omega, by show 3200 + k ≤ 100000; omega⟩
  have a1 := hf.1
  have a2 := hg.1
  have b1 := hf.2.1
  have b2 := hg.2.1
  have h1 : (FT.sub f g).lev + (E0 + k) ≤ 18 + 3210 := by show (FT.sub f g).lev + (3200 + k) ≤ _; simp only [FT.lev]; omega
  have h2 : (FT.sub f g).e ≤ 20 := by simp only [FT.e]; omega
  exact Nat.le_trans (Nat.mul_le_mul h1 h2) (by decide)
theorem part_le {f g : FT} {c : Int} {x y : Int} (h : partD f g c = .tuple [.int x, .int y]) : x.natAbs ≤ 16 ∧ y.natAbs ≤ 16 := by
  unfold partD at h
  split at h
  · cases h
  · rename_i p hp
    have hm := List.mem_of_find?_eq_some hp
    unfold triP at hm
    obtain ⟨far, h1, h2⟩ := List.mem_flatMap.mp hm
    obtain ⟨z, h3, rfl⟩ := List.mem_map.mp h2
    have := List.mem_range.mp h1
    have := List.mem_range.mp h3
    unfold prD2 at h
    have h := PyData.tuple.inj h
    have e1 := PyData.int.inj (List.cons.inj h).1
    have e2 := PyData.int.inj (List.cons.inj (List.cons.inj h).2).1
    have e1 : ((z : Nat) : Int) = x := e1
    have e2 : ((far : Nat) : Int) - ((z : Nat) : Int) = y := e2
    omega
theorem paper_ok {f g : FT} (hf : f.ok2) (hg : g.ok2) (c : Nat) : EOk 0 ((divR c (rD (subF f g) 17)).map rowP) := by
  have a1 := hf.1
  have a2 := hg.1
  have b1 := hf.2.1
  have b2 := hg.2.1
  have o1 := hf.ok (m := 140) (by decide) (by decide)
  have o2 := hg.ok (m := 140) (by decide) (by decide)
  have o3 : (FT.sub f g).ok 140 := ⟨⟨o1.1, o2.1⟩, Nat.le_trans (Nat.mul_le_mul (show (FT.sub f g).lev + 140 ≤ 158 by simp only [FT.lev]; omega) (show (FT.sub f g).e ≤ 20 by simp only [FT.e]; omega)) (by decide)⟩
  refine ⟨?_, fun e he => ?_⟩
  · have := rD_len (subF f g) 17
    unfold divR
    rw [List.length_map, List.length_map]; omega
  · obtain ⟨s, hs, rfl⟩ := List.mem_map.mp he
    obtain ⟨t, ht, rfl⟩ := List.mem_map.mp hs
    obtain ⟨t1, t2, t3, _⟩ := rD_mem ht
    have bd := cof_small (FT.sub f g).pol (FT.dd_bnd o3 (by decide) (i := t.1) (j := t.2.1) (by omega) (by omega))
    have ex : ((FT.sub f g).lev + 140) * (FT.sub f g).e + 32 ≤ 3200 := by
      have := Nat.mul_le_mul (show (FT.sub f g).lev + 140 ≤ 158 by simp only [FT.lev]; omega) (show (FT.sub f g).e ≤ 20 by simp only [FT.e]; omega)
      omega
    have bd2 : t.2.2.natAbs < 2 ^ (E0 + 0) := by
      rw [t3]
      exact Nat.lt_of_lt_of_le bd (Nat.pow_le_pow_right (by decide) ex)
    have bd3 : (t.2.2 / ((stp c t.1 t.2.1 : Nat) : Int)).natAbs < 2 ^ (E0 + 0) := Nat.lt_of_le_of_lt (Int.natAbs_ediv_le_natAbs _ _) bd2
    have g1 : ((t.1 : Nat) : Int).natAbs < 2 ^ 100 := by rw [Int.natAbs_natCast]; omega
    have g2 : ((t.2.1 : Nat) : Int).natAbs < 2 ^ 100 := by rw [Int.natAbs_natCast]; omega
    exact .t3 (Atom.small (by decide) g1) (Atom.small (by decide) g2) (Atom.int (by decide) bd3)
theorem wn_shw {w : Str} {n : Int} (hw : w = "row" ∨ w = "sum" ∨ w = "same" ∨ w = "shape") (hn : n.natAbs < 2 ^ 20) : Shw 2 200 (wn w n) := by
  refine (Shw.list (n := 1) (z := 21) fun x hx => ?_).mono (Nat.le_refl _) (by show 2 + 2 * (21 + 2) ≤ 200; decide)
  rcases List.mem_cons.mp hx with rfl | hx
  · rcases hw with rfl | rfl | rfl | rfl <;> exact Shw.str (by decide +kernel)
  · rw [List.mem_singleton.mp hx]; exact Shw.int (k := 20) hn
theorem res_shw {f g : FT} {c n : Nat} {v : PD} (h : P13 f g c n v) : Shw 2 200 (resD f g c v) := by
  have bt : Shw 2 200 (.bool true) := (Shw.bl true).mono (Nat.le_refl _) (by decide)
  have hs := (h.v.both h.n10).1
  unfold resD
  split
  · exact wn_shw (.inr (.inr (.inr rfl))) (by decide)
  · split
    · exact wn_shw (.inr (.inr (.inl rfl))) (by decide)
    · exact bt
  · rename_i rows hv
    have hrows : rows.length ≤ 1000 := by
      unfold pshape at hv
      split at hv
      · split at hv
        · cases hv
          exact (sml_tup ((sml_tup hs).2 (.tuple rows) (by simp))).1
        · cases hv
      · split at hv <;> cases hv
      · cases hv
    split
    · rename_i k hk
      have := List.mem_range.mp (List.mem_of_find?_eq_some hk)
      exact wn_shw (.inl rfl) (by rw [Int.natAbs_natCast]; omega)
    · split
      · exact bt
      · exact wn_shw (.inr (.inl rfl)) (by decide)
theorem ne_self (s : Str) : ¬ (!decide (s = s)) = true := by simp
abbrev N_law : List Str := ["script", "deck", "turn", "clock", "one", "other", "value", "bend", "due", "kept"]
def ir_law (S_law_deck_91e6 : FSpec) (S_law_clock_4333 : FSpec) (S_law_two_14d8 : FSpec) (S_paper : FSpec) (S_law_one_90da : FSpec) (S_law_due_4155 : FSpec) (S_law_told_6c3d_e : FSpec) (S_law_bent_aa32 : FSpec) : TSt :=
  (sSeq (sAsg 1 (fCall S_law_deck_91e6 (aCons (.s 0) aNil)))
    (sSeq (sFor (iRg (aCons (.e (dC (.int 4))) aNil)) (.nm 2) (sSeq (sAsg 3 (fCall S_law_clock_4333 (aCons (.s 1) aNil)))
    (sSeq (sUnp (.tp [4, 5]) (dFz (fCall S_law_two_14d8 (aCons (.s 1) (aCons (.e (dVar 3)) aNil)))))
    (sSeq (sAsg 6 (fCall S_paper (aCons (.e (dVar 4)) (aCons (.e (dVar 5)) (aCons (.e (dFz (fCall S_law_one_90da (aCons (.s 1) (aCons (.e (dFz (fLst (aCons (.e (dVar 3)) (aCons (.e (dVar 3)) (aCons (.e (dFz (fCall S_law_clock_4333 (aCons (.s 1) aNil)))) aNil)))))) aNil))))) aNil)))))
    (sFor (iRg (aCons (.e (dC (.int 4))) aNil)) (.nm 7) (sSeq (sPar 8 9 (fCall S_law_due_4155 (aCons (.e (dVar 4)) (aCons (.e (dVar 5)) (aCons (.e (dVar 3)) (aCons (.e (dVar 6)) aNil))))) (fD (dBi bRepr (aCons (.s 6) aNil))))
    (sSeq (sIf (tOrD (tVal (dBin cNe (.e (dBi bRepr (aCons (.e (dFz (fCall S_law_told_6c3d_e (aCons (.e (dVar 4)) (aCons (.e (dVar 5)) (aCons (.e (dVar 3)) (aCons (.e (dVar 6)) aNil))))))) aNil))) (.e (dBi bRepr (aCons (.s 8) aNil))))) (tVal (dBin cNe (.e (dBi bRepr (aCons (.s 6) aNil))) (.s 9)))) (sRet (fD (dC (.bool false)))) sNext)
    (sIf (tAndD (tVal (dIsi "tuple" (.s 6))) (tVal (dBin cGt (.e (dBi bLen (aCons (.s 6) aNil))) (.e (dC (.int 1)))))) (sAsg 6 (fCall S_law_bent_aa32 (aCons (.s 1) (aCons (.e (dVar 6)) aNil)))) sNext))))))))
    (sRet (fD (dC (.bool true))))))
theorem sp_law : ∀ args Q, lawS.sp args Q → ir_law S_deck S_clock S_two S_paper S_one S_due13 S_told13 S_bent13 (endsOf args Q) (rho0 N_law args) := by
  rintro args Q ⟨ns, rfl, hl, q⟩
  refine ⟨rfl, ns, rfl, hl, fun dk hdk => ?_⟩
  refine ⟨by decide, _, rfl, fun i ρ => ∃ (dk : List PD) (s2 s3 s4 s5 s6 s7 s8 s9 : Option Lc), ρ = [some (.sc (ns.map .int)), some (.ls none dk), s2, s3, s4, s5, s6, s7, s8, s9] ∧ Dk ((4 - i) * 1000) dk, ⟨dk, none, none, none, none, none, none, none, none, rfl, hdk.mono (by decide)⟩, ?_, ?_⟩
  · rintro i x ρ hx ⟨dk, s2, s3, s4, s5, s6, s7, s8, s9, rfl, hd⟩
    obtain ⟨rfl, hi⟩ := rngD_get hx
    have hi : i < 4 := hi
    have eB : (4 - i) * 1000 = (4 - (i + 1)) * 1000 + 1000 := by omega
    rw [eB] at hd
    obtain ⟨B, hB⟩ : ∃ B, B = (4 - (i + 1)) * 1000 := ⟨_, rfl⟩
    rw [← hB] at hd
    refine ⟨rfl, B + 900, dk, rfl, hd.mono (by omega), fun c dk1 c0 c1 d1 => ?_⟩
    refine ⟨rfl, B + 500, dk1, c, rfl, d1, c0, c1, fun f g dk2 hf hg d2 => ?_⟩
    refine ⟨rfl, rfl, B + 400, dk2, rfl, d2.mono (by omega), fun c3 dk3 c30 c31 d3 => ?_⟩
    refine ⟨rfl, B + 300, dk3, _, rfl, d3.mono (by omega), ⟨Nat.succ_pos _, by show 3 < 2 ^ 60; decide⟩, fun z dk4 hz d4 => ?_⟩
    have hz2 : ∃ c4 : Nat, z = .int (c4 : Nat) ∧ 0 < c4 ∧ c4 ≤ 2 ^ 100 := by
      have all : ∀ x ∈ [PyData.int (c : Nat), .int (c : Nat), .int (c3 : Nat)], ∃ c4 : Nat, x = .int (c4 : Nat) ∧ 0 < c4 ∧ c4 ≤ 2 ^ 100 := by
        simp only [List.forall_mem_cons]
        exact ⟨⟨c, rfl, c0, c1⟩, ⟨c, rfl, c0, c1⟩, ⟨c3, rfl, c30, c31⟩, fun x hx => by cases hx⟩
      exact all z hz
    obtain ⟨c4, rfl, c40, c41⟩ := hz2
    refine ⟨rfl, f, g, c4, 140, rfl, ⟨hf.1, hg.1⟩, hf.ok (by decide) (by decide), hg.ok (by decide) (by decide), by decide, c40, by omega, fun hno => ?_, fun x y hp => ?_⟩
    · skip
      have hv0 : V13 0 (.tuple [.str "alike", .tuple ((divR c4 (rD (subF f g) 17)).map rowP)]) := .t1 hdA (.inl ⟨_, rfl, paper_ok hf hg c4⟩)
      obtain ⟨v0, ev0⟩ : ∃ v0 : PD, v0 = .tuple [.str "alike", .tuple ((divR c4 (rD (subF f g) 17)).map rowP)] := ⟨_, rfl⟩
      rw [← ev0] at hv0
      refine ⟨by decide, _, rfl, fun k ρ => ∃ (dk : List PD) (v : PD) (s7 s8 s9 : Option Lc), ρ = [some (.sc (ns.map .int)), some (.ls none dk), some (.d (.int (0 + (i : Nat)))), some (.d (.int (c : Nat))), some (.d f.pd), some (.d g.pd), some (.d v), s7, s8, s9] ∧ Dk (B + (4 - k) * 10) dk ∧ V13 k v, ⟨dk4, v0, s7, s8, s9, by rw [ev0]; rfl, d4.mono (by omega), hv0⟩, ?_, ?_⟩
      · rintro k yy ρ hy ⟨dk, v, s7, s8, s9, rfl, hd5, hv⟩
        obtain ⟨rfl, hk⟩ := rngD_get hy
        have hk : k < 4 := hk
        have hP : P13 f g c k v := ⟨fg13 hf hg (by omega), hf.2.2.2.1, hg.2.2.2.1, c0, by omega, by omega, hv⟩
        have hb := (hv.both (by omega)).2.ok
        have hr := (res_shw hP).ok
        have e4 : 4 - k = (4 - (k + 1)) + 1 := by omega
        rw [e4] at hd5
        refine ⟨rfl, f, g, c, k, v, rfl, hP, hb, rfl, f, g, c, k, v, rfl, hP, hr, hr, fun h => absurd h (ne_self (resD f g c v).shown), fun _ => ⟨hb, fun h => absurd h (ne_self v.shown), fun _ => ?_⟩⟩
        have up : V13 (k + 1) v ∨ ∃ w r, v = .tuple (.str w :: r) := by
          cases hv with
          | ls a b => exact .inl (.ls (sml_up _ _ a) b)
          | tp hw h1 h3 hr => exact .inr ⟨_, _, rfl⟩
        rcases up with hu | ⟨w, r, rfl⟩
        · cases hv with
          | ls a b => exact ⟨rfl, nofun, fun _ => ⟨nofun, fun _ => ⟨_, _, _, _, _, rfl, hd5.mono (by omega), hu⟩⟩⟩
          | @tp w r hw h1 h3 hr2 =>
            refine ⟨rfl, fun _ => ⟨fun _ => ?_, fun h => ?_⟩, nofun⟩
            · refine ⟨rfl, B + (4 - (k + 1)) * 10, dk, k, w, r, rfl, hd5.mono (by omega), by omega, .tp hw h1 h3 hr2, fun v' dk' hv' d' => ?_⟩
              exact ⟨_, _, _, _, _, rfl, d', hv'⟩
            · exact ⟨_, _, _, _, _, rfl, hd5.mono (by omega), hu⟩
        · refine ⟨rfl, fun _ => ⟨fun _ => ?_, fun h => ?_⟩, nofun⟩
          · refine ⟨rfl, B + (4 - (k + 1)) * 10, dk, k, w, r, rfl, hd5.mono (by omega), by omega, hv, fun v' dk' hv' d' => ?_⟩
            exact ⟨_, _, _, _, _, rfl, d', hv'⟩
          · have h : ¬ (1 : Int) < (((PyData.str w :: r).length : Nat) : Int) := of_decide_eq_false h
            cases hv with
            | tp hw h1 h3 hr => rw [List.length_cons] at h; omega
      · rintro ρ ⟨dk, v, s7, s8, s9, rfl, hd5, hv⟩
        exact ⟨dk, _, _, _, _, _, _, _, _, rfl, by rw [← hB]; exact hd5.mono (by omega)⟩
    · obtain ⟨px, py⟩ := part_le hp
      have hv0 : V13 0 (.tuple [.str "parted", .int x, .int y]) := .t2 hdP (.at (Atom.small (by decide) (by omega)) rfl) (.at (Atom.small (by decide) (by omega)) rfl)
      obtain ⟨v0, ev0⟩ : ∃ v0 : PD, v0 = .tuple [.str "parted", .int x, .int y] := ⟨_, rfl⟩
      rw [← ev0] at hv0
      refine ⟨by decide, _, rfl, fun k ρ => ∃ (dk : List PD) (v : PD) (s7 s8 s9 : Option Lc), ρ = [some (.sc (ns.map .int)), some (.ls none dk), some (.d (.int (0 + (i : Nat)))), some (.d (.int (c : Nat))), some (.d f.pd), some (.d g.pd), some (.d v), s7, s8, s9] ∧ Dk (B + (4 - k) * 10) dk ∧ V13 k v, ⟨dk4, v0, s7, s8, s9, by rw [ev0]; rfl, d4.mono (by omega), hv0⟩, ?_, ?_⟩
      · rintro k yy ρ hy ⟨dk, v, s7, s8, s9, rfl, hd5, hv⟩
        obtain ⟨rfl, hk⟩ := rngD_get hy
        have hk : k < 4 := hk
        have hP : P13 f g c k v := ⟨fg13 hf hg (by omega), hf.2.2.2.1, hg.2.2.2.1, c0, by omega, by omega, hv⟩
        have hb := (hv.both (by omega)).2.ok
        have hr := (res_shw hP).ok
        have e4 : 4 - k = (4 - (k + 1)) + 1 := by omega
        rw [e4] at hd5
        refine ⟨rfl, f, g, c, k, v, rfl, hP, hb, rfl, f, g, c, k, v, rfl, hP, hr, hr, fun h => absurd h (ne_self (resD f g c v).shown), fun _ => ⟨hb, fun h => absurd h (ne_self v.shown), fun _ => ?_⟩⟩
        have up : V13 (k + 1) v ∨ ∃ w r, v = .tuple (.str w :: r) := by
          cases hv with
          | ls a b => exact .inl (.ls (sml_up _ _ a) b)
          | tp hw h1 h3 hr => exact .inr ⟨_, _, rfl⟩
        rcases up with hu | ⟨w, r, rfl⟩
        · cases hv with
          | ls a b => exact ⟨rfl, nofun, fun _ => ⟨nofun, fun _ => ⟨_, _, _, _, _, rfl, hd5.mono (by omega), hu⟩⟩⟩
          | @tp w r hw h1 h3 hr2 =>
            refine ⟨rfl, fun _ => ⟨fun _ => ?_, fun h => ?_⟩, nofun⟩
            · refine ⟨rfl, B + (4 - (k + 1)) * 10, dk, k, w, r, rfl, hd5.mono (by omega), by omega, .tp hw h1 h3 hr2, fun v' dk' hv' d' => ?_⟩
              exact ⟨_, _, _, _, _, rfl, d', hv'⟩
            · exact ⟨_, _, _, _, _, rfl, hd5.mono (by omega), hu⟩
        · refine ⟨rfl, fun _ => ⟨fun _ => ?_, fun h => ?_⟩, nofun⟩
          · refine ⟨rfl, B + (4 - (k + 1)) * 10, dk, k, w, r, rfl, hd5.mono (by omega), by omega, hv, fun v' dk' hv' d' => ?_⟩
            exact ⟨_, _, _, _, _, rfl, d', hv'⟩
          · have h : ¬ (1 : Int) < (((PyData.str w :: r).length : Nat) : Int) := of_decide_eq_false h
            cases hv with
            | tp hw h1 h3 hr => rw [List.length_cons] at h; omega
      · rintro ρ ⟨dk, v, s7, s8, s9, rfl, hd5, hv⟩
        exact ⟨dk, _, _, _, _, _, _, _, _, rfl, by rw [← hB]; exact hd5.mono (by omega)⟩
  · rintro ρ ⟨dk, s2, s3, s4, s5, s6, s7, s8, s9, rfl, hd⟩
    exact q
end DL
namespace DL
open PySem L2 PyProof.Rows
def top (i : Nat) : Stmt := PySem.Challenge.pw_hourforms_k13_papers_spoilt.main.body.getD i (.Pass ⟨0, 0, 0, 0⟩)
abbrev st_x_NoPaper : Stmt := inClass (top 20) 0
theorem sc_x_NoPaper : FnScope ["self", "word", "number"] ["self", "word", "number"] (defScope st_x_NoPaper) := ⟨rfl, rfl, rfl, by decide +kernel, rfl, by decide +kernel, by decide +kernel⟩
theorem mk_x_NoPaper {P : Program} {w : World} {K : PySem.W.Frag} {mg : Str → Option Value} {base : Heap} {fI C HC : Addr} {fd : FuncData} (Fn : Fun K "__init__" "NoPaper.__init__" st_x_NoPaper fI fd) (mH : mg "HourError" = some (.ref HC)) (hc : HeC K HC) (T : OexC K C) (no_word : PySem.W.findIn K (.ref C) "word" = some none) (no_number : PySem.W.findIn K (.ref C) "number" = some none)
    (iC : PySem.W.findIn K (.ref C) "__init__" = some (some (.ref fI))) (tI : PySem.W.typeIn K (.ref fI) = some (.type "function")) (gm : mg "NoPaper" = some (.ref C)) (bi : Binds K fd ["self", "word", "number"] []) : ExMk P w K mg base 1 "NoPaper" C ["word", "number"] :=
  ex_ok2 (k := 0) (m := "NoPaper") Fn sc_x_NoPaper T no_word no_number iC tI gm (fun cdv A outer s H E hr => pss_cons (ps_expr (pe_hinit rfl mH hc (pa_cons (pv 0) (pa_cons pe_str pa_nil)))) (pss_cons (ps_ost (pv 0) (pv 1)) (pss_one (ps_ost (pv 0) (pv 2))))) bi
abbrev st_law_deck_91e6 : Stmt := top 26
theorem sc_law_deck_91e6 : FnScope N_law_deck_91e6 ["script"] (defScope st_law_deck_91e6) := ⟨rfl, rfl, rfl, by decide +kernel, rfl, by decide +kernel, by decide +kernel⟩
theorem cal_law_deck_91e6 {P : Program} {w : World} {K : PySem.W.Frag} {mg : Str → Option Value} {base : Heap} {k : Nat} (hnd : base.NoDigits) (D : Dn K mg "_law_deck" st_law_deck_91e6 ["script"]) (b_list : mg "list" = none) {S : FSpec}
    (len : ∀ args Q, S.sp args Q → args.length = 1) (hsp : ∀ args Q, S.sp args Q → ir_law_deck_91e6 (endsOf args Q) (rho0 N_law_deck_91e6 args)) : Cal P w K mg base (k + 1) "_law_deck" ["script"] S := by
  have sc := sc_law_deck_91e6
  exact def_cal D sc len (fun f cdv A outer s H E hr hgd =>
    (LSs.one (LS.ret (LF.lst (LA.cons (LO.ofD (LD.ofF (LF.list rfl b_list (LA.cons (LO.ofD (LD.slS 0 (pv 0) LP.none (LP.some (LO.ofD LD.int)))) LA.nil)))) (LA.cons (LO.ofD LD.int) (LA.cons (LO.ofD LD.int) (LA.cons (LO.ofD LD.int) LA.nil)))))))) hsp
abbrev st_law_draw_a51a : Stmt := top 27
theorem sc_law_draw_a51a : FnScope N_law_draw_a51a ["deck", "many"] (defScope st_law_draw_a51a) := ⟨rfl, rfl, rfl, by decide +kernel, rfl, by decide +kernel, by decide +kernel⟩
theorem cal_law_draw_a51a {P : Program} {w : World} {K : PySem.W.Frag} {mg : Str → Option Value} {base : Heap} {k : Nat} (hnd : base.NoDigits) (D : Dn K mg "_law_draw" st_law_draw_a51a ["deck", "many"]) (b_int : mg "int" = none) (b_len : mg "len" = none) (b_abs : mg "abs" = none) {S : FSpec}
    (len : ∀ args Q, S.sp args Q → args.length = 2) (hsp : ∀ args Q, S.sp args Q → ir_law_draw_a51a (endsOf args Q) (rho0 N_law_draw_a51a args)) : Cal P w K mg base (k + 1) "_law_draw" ["deck", "many"] S := by
  have sc := sc_law_draw_a51a
  exact def_cal D sc len (fun f cdv A outer s H E hr hgd =>
    (LSs.cons (LS.setL (LD.bin op_addD ok_add (LO.ofD (LD.ix (LO.s 0 (pv 0)) (LO.ofD LD.int) (fun _ _ => rfl))) (LO.ofD LD.int)) (pg_sub (pv 0) (pO (LO.ofD LD.int)) set_list))
    (LSs.cons (LS.ite (LT.cmp op_gt (ok_cI _) (LO.ofD (LD.ix (LO.s 0 (pv 0)) (LO.ofD LD.int) (fun _ _ => rfl))) (LO.ofD LD.int) (nomark _)) (LSs.cons (LS.asg (i := 2) sc.nd rfl (by first | exact .inl rfl | exact .inr rfl) (LF.ofD (LD.bin op_mod ok_mod (LO.ofD (LD.bt call_int1 ok_int rfl b_int (by decide +kernel) (LA.cons (LO.ofD (LD.ix (LO.s 0 (pv 0)) (LO.ofD LD.int) (fun _ _ => rfl))) LA.nil))) (LO.s 1 (pv 1)))))
    (LSs.cons (LS.setL (LD.bin op_fdivW ok_fdiv (LO.ofD (LD.ix (LO.s 0 (pv 0)) (LO.ofD LD.int) (fun _ _ => rfl))) (LO.s 1 (pv 1))) (pg_sub (pv 0) (pO (LO.ofD LD.int)) set_list))
    (LSs.one (LS.retV 2 (pv 2))))) LSs.nil)
    (LSs.cons (LS.asg (i := 3) sc.nd rfl (by first | exact .inl rfl | exact .inr rfl) (LF.ofD LD.int))
    (LSs.cons (LS.ite (LT.cmp (op_neU hr.units) ok_ne (LO.ofD (LD.ix (LO.s 0 (pv 0)) (LO.ofD LD.int) (fun _ _ => rfl))) (LO.ofD (LD.ofF (LF.lst LA.nil))) (nomark _)) (LSs.one (LS.asg (i := 3) sc.nd rfl (by first | exact .inl rfl | exact .inr rfl) (LF.ofD (LD.ix (LO.ofD (LD.ix (LO.s 0 (pv 0)) (LO.ofD LD.int) (fun _ _ => rfl))) (LO.ofD (LD.bin op_mod ok_mod (LO.ofD (LD.bt call_int1 ok_int rfl b_int (by decide +kernel) (LA.cons (LO.ofD (LD.ix (LO.s 0 (pv 0)) (LO.ofD LD.int) (fun _ _ => rfl))) LA.nil))) (LO.ofD (LD.bi call_lenU ok_len rfl b_len (by decide +kernel) (LA.cons (LO.ofD (LD.ix (LO.s 0 (pv 0)) (LO.ofD LD.int) (fun _ _ => rfl))) LA.nil))))) (fun _ _ => rfl))))) LSs.nil)
    (LSs.cons (LS.setL (LD.bin op_addD ok_add (LO.ofD (LD.ix (LO.s 0 (pv 0)) (LO.ofD LD.int) (fun _ _ => rfl))) (LO.ofD LD.int)) (pg_sub (pv 0) (pO (LO.ofD LD.int)) set_list))
    (LSs.cons (LS.ite (LT.w (LW.and (LT.cmp op_ge (ok_cI _) (LO.ofD (LD.bi call_abs ok_abs rfl b_abs (by decide +kernel) (LA.cons (LO.s 3 (pv 3)) LA.nil))) (LO.ofD (LD.bin op_powW ok_pow (LO.ofD LD.int) (LO.ofD LD.int))) (nomark _)) (LW.and1 (LT.cmp op_le (ok_cI _) (LO.ofD (LD.ix (LO.s 0 (pv 0)) (LO.ofD LD.int) (fun _ _ => rfl))) (LO.ofD (LD.bi call_lenU ok_len rfl b_len (by decide +kernel) (LA.cons (LO.ofD (LD.ix (LO.s 0 (pv 0)) (LO.ofD LD.int) (fun _ _ => rfl))) LA.nil))) (nomark _))))) (LSs.cons (LS.setL (LD.bin op_fdivW ok_fdiv (LO.ofD (LD.bi call_abs ok_abs rfl b_abs (by decide +kernel) (LA.cons (LO.s 3 (pv 3)) LA.nil))) (LO.s 1 (pv 1))) (pg_sub (pv 0) (pO (LO.ofD LD.int)) set_list))
    (LSs.one (LS.ret (LF.ofD (LD.bin op_mod ok_mod (LO.ofD (LD.bt call_int1 ok_int rfl b_int (by decide +kernel) (LA.cons (LO.ofD (LD.bi call_abs ok_abs rfl b_abs (by decide +kernel) (LA.cons (LO.s 3 (pv 3)) LA.nil))) LA.nil))) (LO.s 1 (pv 1))))))) LSs.nil)
    (LSs.cons (LS.asg (i := 4) sc.nd rfl (by first | exact .inl rfl | exact .inr rfl) (LF.ofD (LD.bin op_mod ok_mod (LO.ofD (LD.bin op_powW ok_pow (LO.ofD (LD.bt call_int1 ok_int rfl b_int (by decide +kernel) (LA.cons (LO.ofD (LD.bin op_addD ok_add (LO.ofD (LD.bin op_mod ok_mod (LO.ofD (LD.bt call_int1 ok_int rfl b_int (by decide +kernel) (LA.cons (LO.s 3 (pv 3)) LA.nil))) (LO.ofD LD.int))) (LO.ofD (LD.bin op_mulI ok_mul (LO.ofD LD.int) (LO.ofD (LD.ix (LO.s 0 (pv 0)) (LO.ofD LD.int) (fun _ _ => rfl))))))) LA.nil))) (LO.ofD LD.int))) (LO.ofD LD.int))))
    (LSs.cons (LS.asg (i := 4) sc.nd rfl (by first | exact .inl rfl | exact .inr rfl) (LF.ofD (LD.bin op_mod ok_mod (LO.ofD (LD.bin op_powW ok_pow (LO.ofD (LD.bt call_int1 ok_int rfl b_int (by decide +kernel) (LA.cons (LO.ofD (LD.bin op_addD ok_add (LO.ofD (LD.bin op_mulI ok_mul (LO.s 4 (pv 4)) (LO.ofD (LD.bin op_addD ok_add (LO.ofD (LD.bin op_mulI ok_mul (LO.ofD LD.int) (LO.ofD (LD.ix (LO.s 0 (pv 0)) (LO.ofD LD.int) (fun _ _ => rfl))))) (LO.ofD LD.int))))) (LO.ofD LD.int))) LA.nil))) (LO.ofD LD.int))) (LO.ofD LD.int))))
    (LSs.one (LS.ret (LF.ofD (LD.bin op_mod ok_mod (LO.ofD (LD.bin op_fdivW ok_fdiv (LO.s 4 (pv 4)) (LO.ofD LD.int))) (LO.s 1 (pv 1))))))))))))))) hsp
abbrev st_law_one_90da : Stmt := top 28
theorem sc_law_one_90da : FnScope N_law_one_90da ["deck", "items"] (defScope st_law_one_90da) := ⟨rfl, rfl, rfl, by decide +kernel, rfl, by decide +kernel, by decide +kernel⟩
theorem cal_law_one_90da {P : Program} {w : World} {K : PySem.W.Frag} {mg : Str → Option Value} {base : Heap} {k : Nat} (hnd : base.NoDigits) (D : Dn K mg "_law_one" st_law_one_90da ["deck", "items"]) {S_law_draw_a51a : FSpec} (c_law_draw_a51a : Cal P w K mg base k "_law_draw" ["deck", "many"] S_law_draw_a51a) (b_len : mg "len" = none) {S : FSpec}
    (len : ∀ args Q, S.sp args Q → args.length = 2) (hsp : ∀ args Q, S.sp args Q → ir_law_one_90da S_law_draw_a51a (endsOf args Q) (rho0 N_law_one_90da args)) : Cal P w K mg base (k + 1) "_law_one" ["deck", "items"] S := by
  have sc := sc_law_one_90da
  exact def_cal D sc len (fun f cdv A outer s H E hr hgd =>
    (LSs.one (LS.ret (LF.ofD (LD.ix (LO.s 1 (pv 1)) (LO.ofD (LD.ofF (LF.cal c_law_draw_a51a hr hgd rfl (LA.cons (LO.s 0 (pv 0)) (LA.cons (LO.ofD (LD.bi call_lenU ok_len rfl b_len (by decide +kernel) (LA.cons (LO.s 1 (pv 1)) LA.nil))) LA.nil))))) (fun _ _ => rfl)))))) hsp
abbrev st_law_clock_4333 : Stmt := top 31
theorem sc_law_clock_4333 : FnScope N_law_clock_4333 ["deck"] (defScope st_law_clock_4333) := ⟨rfl, rfl, rfl, by decide +kernel, rfl, by decide +kernel, by decide +kernel⟩
theorem cal_law_clock_4333 {P : Program} {w : World} {K : PySem.W.Frag} {mg : Str → Option Value} {base : Heap} {k : Nat} (hnd : base.NoDigits) (D : Dn K mg "_law_clock" st_law_clock_4333 ["deck"]) {S_law_draw_a51a : FSpec} (c_law_draw_a51a : Cal P w K mg base k "_law_draw" ["deck", "many"] S_law_draw_a51a) {S_law_one_90da : FSpec} (c_law_one_90da : Cal P w K mg base k "_law_one" ["deck", "items"] S_law_one_90da) {S : FSpec}
    (len : ∀ args Q, S.sp args Q → args.length = 1) (hsp : ∀ args Q, S.sp args Q → ir_law_clock_4333 S_law_draw_a51a S_law_one_90da (endsOf args Q) (rho0 N_law_clock_4333 args)) : Cal P w K mg base (k + 1) "_law_clock" ["deck"] S := by
  have sc := sc_law_clock_4333
  exact def_cal D sc len (fun f cdv A outer s H E hr hgd =>
    (LSs.cons (LS.asg (i := 1) sc.nd rfl (by first | exact .inl rfl | exact .inr rfl) (LF.lst (LA.cons (LO.ofD (LD.bin op_addD ok_add (LO.ofD LD.int) (LO.ofD (LD.ofF (LF.cal c_law_draw_a51a hr hgd rfl (LA.cons (LO.s 0 (pv 0)) (LA.cons (LO.ofD LD.int) LA.nil))))))) (LA.cons (LO.ofD (LD.bin op_addD ok_add (LO.ofD LD.int) (LO.ofD (LD.ofF (LF.cal c_law_draw_a51a hr hgd rfl (LA.cons (LO.s 0 (pv 0)) (LA.cons (LO.ofD LD.int) LA.nil))))))) (LA.cons (LO.ofD (LD.bin op_shl ok_shl (LO.ofD LD.int) (LO.ofD (LD.ofF (LF.cal c_law_draw_a51a hr hgd rfl (LA.cons (LO.s 0 (pv 0)) (LA.cons (LO.ofD LD.int) LA.nil))))))) (LA.cons (LO.ofD LD.int) (LA.cons (LO.ofD LD.int) (LA.cons (LO.ofD (LD.bin op_mulI ok_mul (LO.ofD LD.int) (LO.ofD (LD.bin op_powW ok_pow (LO.ofD LD.int) (LO.ofD LD.int))))) LA.nil))))))))
    (LSs.cons (LS.asg (i := 1) sc.nd rfl (by first | exact .inl rfl | exact .inr rfl) (LF.ofD (LD.bin op_addD ok_add (LO.s 1 (pv 1)) (LO.ofD (LD.ofF (LF.lst (LA.cons (LO.ofD (LD.bin op_sub ok_sub (LO.ofD (LD.bin op_powW ok_pow (LO.ofD LD.int) (LO.ofD LD.int))) (LO.ofD (LD.ofF (LF.cal c_law_draw_a51a hr hgd rfl (LA.cons (LO.s 0 (pv 0)) (LA.cons (LO.ofD LD.int) LA.nil))))))) (LA.cons (LO.ofD (LD.bin op_addD ok_add (LO.ofD LD.int) (LO.ofD (LD.bin op_mulI ok_mul (LO.ofD (LD.ofF (LF.cal c_law_draw_a51a hr hgd rfl (LA.cons (LO.s 0 (pv 0)) (LA.cons (LO.ofD (LD.bin op_powW ok_pow (LO.ofD LD.int) (LO.ofD LD.int))) LA.nil))))) (LO.ofD (LD.ofF (LF.cal c_law_draw_a51a hr hgd rfl (LA.cons (LO.s 0 (pv 0)) (LA.cons (LO.ofD (LD.bin op_powW ok_pow (LO.ofD LD.int) (LO.ofD LD.int))) LA.nil))))))))) LA.nil))))))))
    (LSs.one (LS.ret (LF.cal c_law_one_90da hr hgd rfl (LA.cons (LO.s 0 (pv 0)) (LA.cons (LO.ofD (LD.var 1 (pv 1))) LA.nil)))))))) hsp
abbrev st_law_leaf_a91b : Stmt := top 29
theorem sc_law_leaf_a91b : FnScope N_law_leaf_a91b ["deck", "letters"] (defScope st_law_leaf_a91b) := ⟨rfl, rfl, rfl, by decide +kernel, rfl, by decide +kernel, by decide +kernel⟩
theorem cal_law_leaf_a91b {P : Program} {w : World} {K : PySem.W.Frag} {mg : Str → Option Value} {base : Heap} {k : Nat} (hnd : base.NoDigits) (D : Dn K mg "_law_leaf" st_law_leaf_a91b ["deck", "letters"]) {S_law_draw_a51a : FSpec} (c_law_draw_a51a : Cal P w K mg base k "_law_draw" ["deck", "many"] S_law_draw_a51a) {S_law_one_90da : FSpec} (c_law_one_90da : Cal P w K mg base k "_law_one" ["deck", "items"] S_law_one_90da) {S : FSpec}
    (len : ∀ args Q, S.sp args Q → args.length = 2) (hsp : ∀ args Q, S.sp args Q → ir_law_leaf_a91b S_law_draw_a51a S_law_one_90da (endsOf args Q) (rho0 N_law_leaf_a91b args)) : Cal P w K mg base (k + 1) "_law_leaf" ["deck", "letters"] S := by
  have sc := sc_law_leaf_a91b
  exact def_cal D sc len (fun f cdv A outer s H E hr hgd =>
    (LSs.cons (LS.asg (i := 2) sc.nd rfl (by first | exact .inl rfl | exact .inr rfl) (LF.ofD (LD.bin op_addD ok_add (LO.ofD (LD.bin op_mulI ok_mul (LO.ofD (LD.ofF (LF.cal c_law_draw_a51a hr hgd rfl (LA.cons (LO.s 0 (pv 0)) (LA.cons (LO.ofD (LD.bin op_powW ok_pow (LO.ofD LD.int) (LO.ofD LD.int))) LA.nil))))) (LO.ofD (LD.bin op_powW ok_pow (LO.ofD LD.int) (LO.ofD LD.int))))) (LO.ofD (LD.ofF (LF.cal c_law_draw_a51a hr hgd rfl (LA.cons (LO.s 0 (pv 0)) (LA.cons (LO.ofD (LD.bin op_powW ok_pow (LO.ofD LD.int) (LO.ofD LD.int))) LA.nil))))))))
    (LSs.cons (LS.asg (i := 3) sc.nd rfl (by first | exact .inl rfl | exact .inr rfl) (LF.cal c_law_one_90da hr hgd rfl (LA.cons (LO.s 0 (pv 0)) (LA.cons (LO.ofD (LD.ofF (LF.lst (LA.cons (LO.ofD (LD.var 2 (pv 2))) (LA.cons (LO.ofD (LD.neg (LO.s 2 (pv 2)))) (LA.cons (LO.ofD (LD.bin op_sub ok_sub (LO.ofD (LD.bin op_powW ok_pow (LO.ofD LD.int) (LO.ofD LD.int))) (LO.ofD LD.int))) (LA.cons (LO.ofD (LD.bin op_sub ok_sub (LO.ofD LD.int) (LO.ofD (LD.bin op_powW ok_pow (LO.ofD LD.int) (LO.ofD LD.int))))) LA.nil))))))) LA.nil))))
    (LSs.cons (LS.asg (i := 4) sc.nd rfl (by first | exact .inl rfl | exact .inr rfl) (LF.lst (LA.cons (LO.ofD LD.int) (LA.cons (LO.ofD LD.int) (LA.cons (LO.ofD (LD.neg (LO.ofD LD.int))) (LA.cons (LO.ofD LD.int) (LA.cons (LO.ofD LD.int) (LA.cons (LO.ofD (LD.neg (LO.ofD LD.int))) (LA.cons (LO.ofD LD.int) (LA.cons (LO.ofD LD.int) (LA.cons (LO.ofD (LD.bin op_sub ok_sub (LO.ofD (LD.ofF (LF.cal c_law_draw_a51a hr hgd rfl (LA.cons (LO.s 0 (pv 0)) (LA.cons (LO.ofD LD.int) LA.nil))))) (LO.ofD LD.int))) (LA.cons (LO.ofD (LD.var 3 (pv 3))) LA.nil))))))))))))
    (LSs.one (LS.ret (LF.cal c_law_one_90da hr hgd rfl (LA.cons (LO.s 0 (pv 0)) (LA.cons (LO.ofD (LD.ofF (LF.lst (LA.cons (LO.ofD (LD.ofF (LF.cal c_law_one_90da hr hgd rfl (LA.cons (LO.s 0 (pv 0)) (LA.cons (LO.ofD (LD.var 4 (pv 4))) LA.nil))))) (LA.cons (LO.ofD (LD.ofF (LF.cal c_law_one_90da hr hgd rfl (LA.cons (LO.s 0 (pv 0)) (LA.cons (LO.ofD (LD.var 1 (pv 1))) LA.nil))))) (LA.cons (LO.ofD (LD.ofF (LF.cal c_law_one_90da hr hgd rfl (LA.cons (LO.s 0 (pv 0)) (LA.cons (LO.ofD (LD.var 1 (pv 1))) LA.nil))))) LA.nil)))))) LA.nil))))))))) hsp
abbrev st_law_formula_6b2b : Stmt := top 30
theorem sc_law_formula_6b2b : FnScope N_law_formula_6b2b ["deck", "letters", "room", "deep"] (defScope st_law_formula_6b2b) := ⟨rfl, rfl, rfl, by decide +kernel, rfl, by decide +kernel, by decide +kernel⟩
theorem cal_law_formula_6b2b {P : Program} {w : World} {K : PySem.W.Frag} {mg : Str → Option Value} {base : Heap} {k : Nat} (hnd : base.NoDigits) (D : Dn K mg "_law_formula" st_law_formula_6b2b ["deck", "letters", "room", "deep"]) {S_law_draw_a51a : FSpec} (c_law_draw_a51a : Cal P w K mg base k "_law_draw" ["deck", "many"] S_law_draw_a51a) {S_law_leaf_a91b : FSpec} (c_law_leaf_a91b : Cal P w K mg base k "_law_leaf" ["deck", "letters"] S_law_leaf_a91b) {S_law_formula_6b2b : FSpec} (c_law_formula_6b2b : Cal P w K mg base k "_law_formula" ["deck", "letters", "room", "deep"] S_law_formula_6b2b) (b_max : mg "max" = none) {S : FSpec}
    (len : ∀ args Q, S.sp args Q → args.length = 4) (hsp : ∀ args Q, S.sp args Q → ir_law_formula_6b2b S_law_draw_a51a S_law_leaf_a91b S_law_formula_6b2b (endsOf args Q) (rho0 N_law_formula_6b2b args)) : Cal P w K mg base (k + 1) "_law_formula" ["deck", "letters", "room", "deep"] S := by
  have sc := sc_law_formula_6b2b
  exact def_cal D sc len (fun f cdv A outer s H E hr hgd =>
    (LSs.cons (LS.asg (i := 4) sc.nd rfl (by first | exact .inl rfl | exact .inr rfl) (LF.cal c_law_draw_a51a hr hgd rfl (LA.cons (LO.s 0 (pv 0)) (LA.cons (LO.ofD LD.int) LA.nil))))
    (LSs.cons (LS.ite (LT.w (LW.or (LT.cmp op_lt (ok_cI _) (LO.s 3 (pv 3)) (LO.ofD LD.int) (nomark _)) (LW.or (LT.cmp op_lt (ok_cI _) (LO.s 4 (pv 4)) (LO.ofD LD.int) (nomark _)) (LW.or1 (LT.w (LW.and (LT.cmp op_lt (ok_cI _) (LO.s 2 (pv 2)) (LO.ofD LD.int) (nomark _)) (LW.and1 (LT.cmp op_in_seq (ok_in false) (LO.s 4 (pv 4)) (LO.ofD (LD.ofF (LF.lst (LA.cons (LO.ofD LD.int) (LA.cons (LO.ofD LD.int) (LA.cons (LO.ofD LD.int) LA.nil)))))) rfl)))))))) (LSs.one (LS.ret (LF.cal c_law_leaf_a91b hr hgd rfl (LA.cons (LO.s 0 (pv 0)) (LA.cons (LO.ofD (LD.var 1 (pv 1))) LA.nil))))) LSs.nil)
    (LSs.cons (LS.ite (LT.cmp op_lt (ok_cI _) (LO.s 4 (pv 4)) (LO.ofD LD.int) (nomark _)) (LSs.cons (LS.asg (i := 5) sc.nd rfl (by first | exact .inl rfl | exact .inr rfl) (LF.ofD (LD.ix (LO.ofD (LD.ofF (LF.lst (LA.cons (LO.ofD LD.str) (LA.cons (LO.ofD LD.str) (LA.cons (LO.ofD LD.str) LA.nil)))))) (LO.ofD (LD.bin op_sub ok_sub (LO.s 4 (pv 4)) (LO.ofD LD.int))) (fun _ _ => rfl))))
    (LSs.cons (LS.asg (i := 6) sc.nd rfl (by first | exact .inl rfl | exact .inr rfl) (LF.cal c_law_formula_6b2b hr hgd rfl (LA.cons (LO.s 0 (pv 0)) (LA.cons (LO.ofD (LD.var 1 (pv 1))) (LA.cons (LO.ofD (LD.var 2 (pv 2))) (LA.cons (LO.ofD (LD.bin op_sub ok_sub (LO.s 3 (pv 3)) (LO.ofD LD.int))) LA.nil))))))
    (LSs.one (LS.ret (LF.ofD (LD.tup (LA.cons (LO.ofD (LD.var 5 (pv 5))) (LA.cons (LO.ofD (LD.var 6 (pv 6))) (LA.cons (LO.ofD (LD.ofF (LF.cal c_law_formula_6b2b hr hgd rfl (LA.cons (LO.s 0 (pv 0)) (LA.cons (LO.ofD (LD.var 1 (pv 1))) (LA.cons (LO.ofD (LD.var 2 (pv 2))) (LA.cons (LO.ofD (LD.bin op_sub ok_sub (LO.s 3 (pv 3)) (LO.ofD LD.int))) LA.nil))))))) LA.nil))))))))) LSs.nil)
    (LSs.cons (LS.ite (LT.cmp (op_eqU hr.units) ok_eq (LO.s 4 (pv 4)) (LO.ofD LD.int) (nomark _)) (LSs.cons (LS.asg (i := 7) sc.nd rfl (by first | exact .inl rfl | exact .inr rfl) (LF.cal c_law_draw_a51a hr hgd rfl (LA.cons (LO.s 0 (pv 0)) (LA.cons (LO.ofD (LD.bin op_addD ok_add (LO.s 2 (pv 2)) (LO.ofD LD.int))) LA.nil))))
    (LSs.one (LS.ret (LF.ofD (LD.tup (LA.cons (LO.ofD LD.str) (LA.cons (LO.ofD (LD.ofF (LF.cal c_law_formula_6b2b hr hgd rfl (LA.cons (LO.s 0 (pv 0)) (LA.cons (LO.ofD (LD.var 1 (pv 1))) (LA.cons (LO.ofD (LD.bin op_fdivW ok_fdiv (LO.s 2 (pv 2)) (LO.ofD (LD.bi (call_max2 rfl) ok_max2 rfl b_max (by decide +kernel) (LA.cons (LO.ofD LD.int) (LA.cons (LO.s 7 (pv 7)) LA.nil)))))) (LA.cons (LO.ofD (LD.bin op_sub ok_sub (LO.s 3 (pv 3)) (LO.ofD LD.int))) LA.nil))))))) (LA.cons (LO.ofD (LD.var 7 (pv 7))) LA.nil)))))))) LSs.nil)
    (LSs.cons (LS.asg (i := 8) sc.nd rfl (by first | exact .inl rfl | exact .inr rfl) (LF.ofD (LD.bin op_addD ok_add (LO.ofD LD.int) (LO.ofD (LD.ofF (LF.cal c_law_draw_a51a hr hgd rfl (LA.cons (LO.s 0 (pv 0)) (LA.cons (LO.ofD (LD.bin op_sub ok_sub (LO.s 2 (pv 2)) (LO.ofD LD.int))) LA.nil))))))))
    (LSs.cons (LS.asg (i := 6) sc.nd rfl (by first | exact .inl rfl | exact .inr rfl) (LF.cal c_law_formula_6b2b hr hgd rfl (LA.cons (LO.s 0 (pv 0)) (LA.cons (LO.ofD (LD.var 1 (pv 1))) (LA.cons (LO.ofD (LD.var 8 (pv 8))) (LA.cons (LO.ofD (LD.bin op_sub ok_sub (LO.s 3 (pv 3)) (LO.ofD LD.int))) LA.nil))))))
    (LSs.one (LS.ret (LF.ofD (LD.tup (LA.cons (LO.ofD LD.str) (LA.cons (LO.ofD (LD.var 6 (pv 6))) (LA.cons (LO.ofD (LD.ofF (LF.cal c_law_formula_6b2b hr hgd rfl (LA.cons (LO.s 0 (pv 0)) (LA.cons (LO.ofD (LD.var 1 (pv 1))) (LA.cons (LO.ofD (LD.bin op_sub ok_sub (LO.s 2 (pv 2)) (LO.s 8 (pv 8)))) (LA.cons (LO.ofD (LD.bin op_sub ok_sub (LO.s 3 (pv 3)) (LO.ofD LD.int))) LA.nil))))))) LA.nil)))))))))))))) hsp
abbrev st_law_common_ae84 : Stmt := top 33
theorem sc_law_common_ae84 : FnScope N_law_common_ae84 ["one", "other"] (defScope st_law_common_ae84) := ⟨rfl, rfl, rfl, by decide +kernel, rfl, by decide +kernel, by decide +kernel⟩
theorem cal_law_common_ae84 {P : Program} {w : World} {K : PySem.W.Frag} {mg : Str → Option Value} {base : Heap} {k : Nat} (hnd : base.NoDigits) (D : Dn K mg "_law_common" st_law_common_ae84 ["one", "other"]) (b_int : mg "int" = none) {S : FSpec}
    (len : ∀ args Q, S.sp args Q → args.length = 2) (hsp : ∀ args Q, S.sp args Q → ir_law_common_ae84 (endsOf args Q) (rho0 N_law_common_ae84 args)) : Cal P w K mg base (k + 1) "_law_common" ["one", "other"] S := by
  have sc := sc_law_common_ae84
  exact def_cal D sc len (fun f cdv A outer s H E hr hgd =>
    (LSs.cons (LS.while PassesOwn.never (LT.cmp op_gt (ok_cI _) (LO.s 1 (pv 1)) (LO.ofD LD.int) (nomark _)) (LSs.one (LS.par (i := 0) (j := 1) rfl sc.nd rfl rfl (by decide) rfl rfl (LF.ofD (LD.var 1 (pv 1))) (LF.ofD (LD.bin op_mod ok_mod (LO.ofD (LD.bt call_int1 ok_int rfl b_int (by decide +kernel) (LA.cons (LO.s 0 (pv 0)) LA.nil))) (LO.s 1 (pv 1)))) rfl)))
    (LSs.one (LS.retV 0 (pv 0))))) hsp
abbrev st_law_falling_d92b : Stmt := top 34
theorem sc_law_falling_d92b : FnScope N_law_falling_d92b ["x", "many"] (defScope st_law_falling_d92b) := ⟨rfl, rfl, rfl, by decide +kernel, rfl, by decide +kernel, by decide +kernel⟩
theorem cal_law_falling_d92b {P : Program} {w : World} {K : PySem.W.Frag} {mg : Str → Option Value} {base : Heap} {k : Nat} (hnd : base.NoDigits) (D : Dn K mg "_law_falling" st_law_falling_d92b ["x", "many"]) (b_range : mg "range" = none) {S : FSpec}
    (len : ∀ args Q, S.sp args Q → args.length = 2) (hsp : ∀ args Q, S.sp args Q → ir_law_falling_d92b (endsOf args Q) (rho0 N_law_falling_d92b args)) : Cal P w K mg base (k + 1) "_law_falling" ["x", "many"] S := by
  have sc := sc_law_falling_d92b
  exact def_cal D sc len (fun f cdv A outer s H E hr hgd =>
    (LSs.cons (LS.asg (i := 2) sc.nd rfl (by first | exact .inl rfl | exact .inr rfl) (LF.ofD LD.int))
    (LSs.cons (LS.for (pt := (.nm 3)) PassesOwn.never rfl (LI.range1 rfl b_range (LA.cons (LO.s 1 (pv 1)) LA.nil)) (pg_name (i := 3) sc.nd rfl (by first | exact .inl rfl | exact .inr rfl)) (LSs.one (LS.asg (i := 2) sc.nd rfl (by first | exact .inl rfl | exact .inr rfl) (LF.ofD (LD.bin op_mulI ok_mul (LO.s 2 (pv 2)) (LO.ofD (LD.bin op_sub ok_sub (LO.s 0 (pv 0)) (LO.s 3 (pv 3)))))))))
    (LSs.one (LS.retV 2 (pv 2)))))) hsp
abbrev st_law_chain_f3d4 : Stmt := top 36
theorem sc_law_chain_f3d4 : FnScope N_law_chain_f3d4 ["letter", "many"] (defScope st_law_chain_f3d4) := ⟨rfl, rfl, rfl, by decide +kernel, rfl, by decide +kernel, by decide +kernel⟩
theorem cal_law_chain_f3d4 {P : Program} {w : World} {K : PySem.W.Frag} {mg : Str → Option Value} {base : Heap} {k : Nat} (hnd : base.NoDigits) (D : Dn K mg "_law_chain" st_law_chain_f3d4 ["letter", "many"]) (b_range : mg "range" = none) {S : FSpec}
    (len : ∀ args Q, S.sp args Q → args.length = 2) (hsp : ∀ args Q, S.sp args Q → ir_law_chain_f3d4 (endsOf args Q) (rho0 N_law_chain_f3d4 args)) : Cal P w K mg base (k + 1) "_law_chain" ["letter", "many"] S := by
  have sc := sc_law_chain_f3d4
  exact def_cal D sc len (fun f cdv A outer s H E hr hgd =>
    (LSs.cons (LS.asg (i := 2) sc.nd rfl (by first | exact .inl rfl | exact .inr rfl) (LF.ofD LD.int))
    (LSs.cons (LS.for (pt := (.nm 3)) PassesOwn.never rfl (LI.range1 rfl b_range (LA.cons (LO.s 1 (pv 1)) LA.nil)) (pg_name (i := 3) sc.nd rfl (by first | exact .inl rfl | exact .inr rfl)) (LSs.one (LS.asg (i := 2) sc.nd rfl (by first | exact .inl rfl | exact .inr rfl) (LF.ofD (LD.ite (LT.cmp (op_eqU hr.units) ok_eq (LO.s 3 (pv 3)) (LO.ofD LD.int) (nomark _)) (LD.tup (LA.cons (LO.ofD LD.str) (LA.cons (LO.ofD (LD.var 0 (pv 0))) (LA.cons (LO.ofD (LD.var 3 (pv 3))) LA.nil)))) (LD.tup (LA.cons (LO.ofD LD.str) (LA.cons (LO.ofD (LD.var 2 (pv 2))) (LA.cons (LO.ofD (LD.tup (LA.cons (LO.ofD LD.str) (LA.cons (LO.ofD (LD.var 0 (pv 0))) (LA.cons (LO.ofD (LD.var 3 (pv 3))) LA.nil))))) LA.nil)))))))))
    (LSs.one (LS.retV 2 (pv 2)))))) hsp
abbrev st_law_near_025f : Stmt := top 37
theorem sc_law_near_025f : FnScope N_law_near_025f ["deck", "formula", "clock"] (defScope st_law_near_025f) := ⟨rfl, rfl, rfl, by decide +kernel, rfl, by decide +kernel, by decide +kernel⟩
theorem cal_law_near_025f {P : Program} {w : World} {K : PySem.W.Frag} {mg : Str → Option Value} {base : Heap} {k : Nat} (hnd : base.NoDigits) (D : Dn K mg "_law_near" st_law_near_025f ["deck", "formula", "clock"]) {S_law_one_90da : FSpec} (c_law_one_90da : Cal P w K mg base k "_law_one" ["deck", "items"] S_law_one_90da) {S_law_draw_a51a : FSpec} (c_law_draw_a51a : Cal P w K mg base k "_law_draw" ["deck", "many"] S_law_draw_a51a) {S_law_common_ae84 : FSpec} (c_law_common_ae84 : Cal P w K mg base k "_law_common" ["one", "other"] S_law_common_ae84) {S_law_falling_d92b : FSpec} (c_law_falling_d92b : Cal P w K mg base k "_law_falling" ["x", "many"] S_law_falling_d92b) {S_law_chain_f3d4 : FSpec} (c_law_chain_f3d4 : Cal P w K mg base k "_law_chain" ["letter", "many"] S_law_chain_f3d4) (b_min : mg "min" = none) (b_max : mg "max" = none) {S : FSpec}
    (len : ∀ args Q, S.sp args Q → args.length = 3) (hsp : ∀ args Q, S.sp args Q → ir_law_near_025f S_law_one_90da S_law_draw_a51a S_law_common_ae84 S_law_falling_d92b S_law_chain_f3d4 (endsOf args Q) (rho0 N_law_near_025f args)) : Cal P w K mg base (k + 1) "_law_near" ["deck", "formula", "clock"] S := by
  have sc := sc_law_near_025f
  exact def_cal D sc len (fun f cdv A outer s H E hr hgd =>
    (LSs.cons (LS.asg (i := 3) sc.nd rfl (by first | exact .inl rfl | exact .inr rfl) (LF.cal c_law_one_90da hr hgd rfl (LA.cons (LO.s 0 (pv 0)) (LA.cons (LO.ofD (LD.ofF (LF.lst (LA.cons (LO.ofD (LD.ofF (LF.cal c_law_draw_a51a hr hgd rfl (LA.cons (LO.s 0 (pv 0)) (LA.cons (LO.ofD LD.int) LA.nil))))) (LA.cons (LO.ofD (LD.ofF (LF.cal c_law_draw_a51a hr hgd rfl (LA.cons (LO.s 0 (pv 0)) (LA.cons (LO.ofD LD.int) LA.nil))))) LA.nil))))) LA.nil))))
    (LSs.cons (LS.asg (i := 4) sc.nd rfl (by first | exact .inl rfl | exact .inr rfl) (LF.cal c_law_draw_a51a hr hgd rfl (LA.cons (LO.s 0 (pv 0)) (LA.cons (LO.ofD (LD.bi (call_min2 rfl) ok_min2 rfl b_min (by decide +kernel) (LA.cons (LO.ofD LD.int) (LA.cons (LO.ofD (LD.bin op_sub ok_sub (LO.ofD LD.int) (LO.s 3 (pv 3)))) LA.nil)))) LA.nil))))
    (LSs.cons (LS.asg (i := 5) sc.nd rfl (by first | exact .inl rfl | exact .inr rfl) (LF.cal c_law_one_90da hr hgd rfl (LA.cons (LO.s 0 (pv 0)) (LA.cons (LO.ofD (LD.ofF (LF.lst (LA.cons (LO.ofD LD.str) (LA.cons (LO.ofD LD.str) LA.nil))))) LA.nil))))
    (LSs.cons (LS.asg (i := 6) sc.nd rfl (by first | exact .inl rfl | exact .inr rfl) (LF.ofD (LD.bin op_fdivW ok_fdiv (LO.s 2 (pv 2)) (LO.ofD (LD.ofF (LF.cal c_law_common_ae84 hr hgd rfl (LA.cons (LO.ofD (LD.var 2 (pv 2))) (LA.cons (LO.ofD (LD.bin op_mulI ok_mul (LO.ofD (LD.ofF (LF.cal c_law_falling_d92b hr hgd rfl (LA.cons (LO.ofD (LD.var 3 (pv 3))) (LA.cons (LO.ofD (LD.var 3 (pv 3))) LA.nil))))) (LO.ofD (LD.ofF (LF.cal c_law_falling_d92b hr hgd rfl (LA.cons (LO.ofD (LD.var 4 (pv 4))) (LA.cons (LO.ofD (LD.var 4 (pv 4))) LA.nil))))))) LA.nil))))))))
    (LSs.cons (LS.asg (i := 6) sc.nd rfl (by first | exact .inl rfl | exact .inr rfl) (LF.ofD (LD.bi (call_max2 rfl) ok_max2 rfl b_max (by decide +kernel) (LA.cons (LO.ofD LD.int) (LA.cons (LO.ofD (LD.bin op_addD ok_add (LO.s 6 (pv 6)) (LO.ofD (LD.ofF (LF.cal c_law_one_90da hr hgd rfl (LA.cons (LO.s 0 (pv 0)) (LA.cons (LO.ofD (LD.ofF (LF.lst (LA.cons (LO.ofD LD.int) (LA.cons (LO.ofD LD.int) (LA.cons (LO.ofD LD.int) (LA.cons (LO.ofD LD.int) (LA.cons (LO.ofD (LD.neg (LO.ofD LD.int))) LA.nil)))))))) LA.nil))))))) LA.nil)))))
    (LSs.cons (LS.asg (i := 7) sc.nd rfl (by first | exact .inl rfl | exact .inr rfl) (LF.ofD (LD.tup (LA.cons (LO.ofD LD.str) (LA.cons (LO.ofD (LD.ofF (LF.cal c_law_chain_f3d4 hr hgd rfl (LA.cons (LO.ofD (LD.ix (LO.s 5 (pv 5)) (LO.ofD LD.int) (fun _ _ => rfl))) (LA.cons (LO.ofD (LD.var 3 (pv 3))) LA.nil))))) (LA.cons (LO.ofD (LD.ofF (LF.cal c_law_chain_f3d4 hr hgd rfl (LA.cons (LO.ofD (LD.ix (LO.s 5 (pv 5)) (LO.ofD LD.int) (fun _ _ => rfl))) (LA.cons (LO.ofD (LD.var 4 (pv 4))) LA.nil))))) LA.nil))))))
    (LSs.cons (LS.asg (i := 7) sc.nd rfl (by first | exact .inl rfl | exact .inr rfl) (LF.ofD (LD.tup (LA.cons (LO.ofD LD.str) (LA.cons (LO.ofD (LD.tup (LA.cons (LO.ofD LD.str) (LA.cons (LO.ofD (LD.var 6 (pv 6))) (LA.cons (LO.ofD (LD.ofF (LF.cal c_law_one_90da hr hgd rfl (LA.cons (LO.s 0 (pv 0)) (LA.cons (LO.ofD (LD.ofF (LF.lst (LA.cons (LO.ofD LD.int) (LA.cons (LO.ofD (LD.neg (LO.ofD LD.int))) (LA.cons (LO.ofD LD.int) (LA.cons (LO.ofD LD.int) LA.nil))))))) LA.nil))))) LA.nil))))) (LA.cons (LO.ofD (LD.var 7 (pv 7))) LA.nil))))))
    (LSs.one (LS.ret (LF.cal c_law_one_90da hr hgd rfl (LA.cons (LO.s 0 (pv 0)) (LA.cons (LO.ofD (LD.ofF (LF.lst (LA.cons (LO.ofD (LD.tup (LA.cons (LO.ofD LD.str) (LA.cons (LO.ofD (LD.var 1 (pv 1))) (LA.cons (LO.ofD (LD.var 7 (pv 7))) LA.nil))))) (LA.cons (LO.ofD (LD.tup (LA.cons (LO.ofD LD.str) (LA.cons (LO.ofD (LD.var 1 (pv 1))) (LA.cons (LO.ofD (LD.var 7 (pv 7))) LA.nil))))) (LA.cons (LO.ofD (LD.tup (LA.cons (LO.ofD LD.str) (LA.cons (LO.ofD (LD.var 7 (pv 7))) (LA.cons (LO.ofD (LD.tup (LA.cons (LO.ofD LD.str) (LA.cons (LO.ofD LD.int) (LA.cons (LO.ofD (LD.var 1 (pv 1))) LA.nil))))) LA.nil))))) LA.nil)))))) LA.nil))))))))))))) hsp
abbrev st_law_two_14d8 : Stmt := top 38
theorem sc_law_two_14d8 : FnScope N_law_two_14d8 ["deck", "clock"] (defScope st_law_two_14d8) := ⟨rfl, rfl, rfl, by decide +kernel, rfl, by decide +kernel, by decide +kernel⟩
theorem cal_law_two_14d8 {P : Program} {w : World} {K : PySem.W.Frag} {mg : Str → Option Value} {base : Heap} {k : Nat} (hnd : base.NoDigits) (D : Dn K mg "_law_two" st_law_two_14d8 ["deck", "clock"]) {S_law_formula_6b2b : FSpec} (c_law_formula_6b2b : Cal P w K mg base k "_law_formula" ["deck", "letters", "room", "deep"] S_law_formula_6b2b) {S_law_draw_a51a : FSpec} (c_law_draw_a51a : Cal P w K mg base k "_law_draw" ["deck", "many"] S_law_draw_a51a) {S_law_one_90da : FSpec} (c_law_one_90da : Cal P w K mg base k "_law_one" ["deck", "items"] S_law_one_90da) {S_law_near_025f : FSpec} (c_law_near_025f : Cal P w K mg base k "_law_near" ["deck", "formula", "clock"] S_law_near_025f) {S : FSpec}
    (len : ∀ args Q, S.sp args Q → args.length = 2) (hsp : ∀ args Q, S.sp args Q → ir_law_two_14d8 S_law_formula_6b2b S_law_draw_a51a S_law_one_90da S_law_near_025f (endsOf args Q) (rho0 N_law_two_14d8 args)) : Cal P w K mg base (k + 1) "_law_two" ["deck", "clock"] S := by
  have sc := sc_law_two_14d8
  exact def_cal D sc len (fun f cdv A outer s H E hr hgd =>
    (LSs.cons (LS.asg (i := 2) sc.nd rfl (by first | exact .inl rfl | exact .inr rfl) (LF.cal c_law_formula_6b2b hr hgd rfl (LA.cons (LO.s 0 (pv 0)) (LA.cons (LO.ofD (LD.ofF (LF.lst (LA.cons (LO.ofD LD.str) (LA.cons (LO.ofD LD.str) LA.nil))))) (LA.cons (LO.ofD LD.int) (LA.cons (LO.ofD (LD.bin op_addD ok_add (LO.ofD LD.int) (LO.ofD (LD.ofF (LF.cal c_law_draw_a51a hr hgd rfl (LA.cons (LO.s 0 (pv 0)) (LA.cons (LO.ofD LD.int) LA.nil))))))) LA.nil))))))
    (LSs.cons (LS.ite (LT.cmp (op_eqU hr.units) ok_eq (LO.ofD (LD.ofF (LF.cal c_law_draw_a51a hr hgd rfl (LA.cons (LO.s 0 (pv 0)) (LA.cons (LO.ofD LD.int) LA.nil))))) (LO.ofD LD.int) (nomark _)) (LSs.one (LS.ret (LF.ofD (LD.tup (LA.cons (LO.ofD (LD.var 2 (pv 2))) (LA.cons (LO.ofD (LD.ofF (LF.cal c_law_formula_6b2b hr hgd rfl (LA.cons (LO.s 0 (pv 0)) (LA.cons (LO.ofD (LD.ofF (LF.cal c_law_one_90da hr hgd rfl (LA.cons (LO.s 0 (pv 0)) (LA.cons (LO.ofD (LD.ofF (LF.lst (LA.cons (LO.ofD (LD.ofF (LF.lst (LA.cons (LO.ofD LD.str) LA.nil)))) (LA.cons (LO.ofD (LD.ofF (LF.lst (LA.cons (LO.ofD LD.str) (LA.cons (LO.ofD LD.str) LA.nil))))) LA.nil))))) LA.nil))))) (LA.cons (LO.ofD LD.int) (LA.cons (LO.ofD (LD.bin op_addD ok_add (LO.ofD LD.int) (LO.ofD (LD.ofF (LF.cal c_law_draw_a51a hr hgd rfl (LA.cons (LO.s 0 (pv 0)) (LA.cons (LO.ofD LD.int) LA.nil))))))) LA.nil))))))) LA.nil)))))) LSs.nil)
    (LSs.one (LS.ret (LF.ofD (LD.tup (LA.cons (LO.ofD (LD.var 2 (pv 2))) (LA.cons (LO.ofD (LD.ofF (LF.cal c_law_near_025f hr hgd rfl (LA.cons (LO.s 0 (pv 0)) (LA.cons (LO.ofD (LD.var 2 (pv 2))) (LA.cons (LO.ofD (LD.var 1 (pv 1))) LA.nil)))))) LA.nil))))))))) hsp
abbrev st_powered : Stmt := top 3
theorem sc_powered : FnScope N_powered ["number", "times"] (defScope st_powered) := ⟨rfl, rfl, rfl, by decide +kernel, rfl, by decide +kernel, by decide +kernel⟩
theorem cal_powered {P : Program} {w : World} {K : PySem.W.Frag} {mg : Str → Option Value} {base : Heap} {k : Nat} (hnd : base.NoDigits) (D : Dn K mg "powered" st_powered ["number", "times"]) (b_range : mg "range" = none) {S : FSpec}
    (len : ∀ args Q, S.sp args Q → args.length = 2) (hsp : ∀ args Q, S.sp args Q → ir_powered (endsOf args Q) (rho0 N_powered args)) : Cal P w K mg base (k + 1) "powered" ["number", "times"] S := by
  have sc := sc_powered
  exact def_cal D sc len (fun f cdv A outer s H E hr hgd =>
    (LSs.cons (LS.asg (i := 2) sc.nd rfl (by first | exact .inl rfl | exact .inr rfl) (LF.ofD LD.int))
    (LSs.cons (LS.for (pt := (.nm 3)) PassesOwn.never rfl (LI.range1 rfl b_range (LA.cons (LO.s 1 (pv 1)) LA.nil)) (pg_name (i := 3) sc.nd rfl (by first | exact .inl rfl | exact .inr rfl)) (LSs.one (LS.asg (i := 2) sc.nd rfl (by first | exact .inl rfl | exact .inr rfl) (LF.ofD (LD.bin op_mulI ok_mul (LO.s 2 (pv 2)) (LO.s 0 (pv 0)))))))
    (LSs.one (LS.retV 2 (pv 2)))))) hsp
abbrev st_worth : Stmt := top 4
theorem sc_worth : FnScope N_worth ["formula", "x", "y"] (defScope st_worth) := ⟨rfl, rfl, rfl, by decide +kernel, rfl, by decide +kernel, by decide +kernel⟩
theorem cal_worth {P : Program} {w : World} {K : PySem.W.Frag} {mg : Str → Option Value} {base : Heap} {k : Nat} (hnd : base.NoDigits) (D : Dn K mg "worth" st_worth ["formula", "x", "y"]) {S_worth : FSpec} (c_worth : Cal P w K mg base k "worth" ["formula", "x", "y"] S_worth) {S_powered : FSpec} (c_powered : Cal P w K mg base k "powered" ["number", "times"] S_powered) (b_isinstance : mg "isinstance" = none) (b_tuple : mg "tuple" = none) {S : FSpec}
    (len : ∀ args Q, S.sp args Q → args.length = 3) (hsp : ∀ args Q, S.sp args Q → ir_worth S_worth S_powered (endsOf args Q) (rho0 N_worth args)) : Cal P w K mg base (k + 1) "worth" ["formula", "x", "y"] S := by
  have sc := sc_worth
  exact def_cal D sc len (fun f cdv A outer s H E hr hgd =>
    (LSs.cons (LS.ite (LT.not (LT.val (LD.isi "tuple" (by simp) rfl b_isinstance rfl b_tuple (by decide +kernel) (LO.s 0 (pv 0))))) (LSs.one (LS.ret (LF.ofD (LD.getF (hu_of hr) (LF.dict (LPr.cs (LD.var 1 (pv 1)) (LPr.cs (LD.var 2 (pv 2)) LPr.nil)) (by decide +kernel) rfl (by simp) (by decide +kernel) (by decide +kernel)) (LO.s 0 (pv 0)) (LO.s 0 (pv 0)) ⟨rfl, rfl, rfl, rfl⟩)))) LSs.nil)
    (LSs.cons (LS.asg (i := 3) sc.nd rfl (by first | exact .inl rfl | exact .inr rfl) (LF.cal c_worth hr hgd rfl (LA.cons (LO.ofD (LD.ix (LO.s 0 (pv 0)) (LO.ofD LD.int) (fun _ _ => rfl))) (LA.cons (LO.ofD (LD.var 1 (pv 1))) (LA.cons (LO.ofD (LD.var 2 (pv 2))) LA.nil)))))
    (LSs.cons (LS.ite (LT.cmp (op_eqU hr.units) ok_eq (LO.ofD (LD.ix (LO.s 0 (pv 0)) (LO.ofD LD.int) (fun _ _ => rfl))) (LO.ofD LD.str) (nomark _)) (LSs.one (LS.ret (LF.cal c_powered hr hgd rfl (LA.cons (LO.ofD (LD.var 3 (pv 3))) (LA.cons (LO.ofD (LD.ix (LO.s 0 (pv 0)) (LO.ofD LD.int) (fun _ _ => rfl))) LA.nil))))) LSs.nil)
    (LSs.cons (LS.asg (i := 4) sc.nd rfl (by first | exact .inl rfl | exact .inr rfl) (LF.cal c_worth hr hgd rfl (LA.cons (LO.ofD (LD.ix (LO.s 0 (pv 0)) (LO.ofD LD.int) (fun _ _ => rfl))) (LA.cons (LO.ofD (LD.var 1 (pv 1))) (LA.cons (LO.ofD (LD.var 2 (pv 2))) LA.nil)))))
    (LSs.cons (LS.ite (LT.cmp (op_eqU hr.units) ok_eq (LO.ofD (LD.ix (LO.s 0 (pv 0)) (LO.ofD LD.int) (fun _ _ => rfl))) (LO.ofD LD.str) (nomark _)) (LSs.one (LS.ret (LF.ofD (LD.bin op_mulI ok_mul (LO.s 3 (pv 3)) (LO.s 4 (pv 4)))))) LSs.nil)
    (LSs.one (LS.ret (LF.ofD (LD.ite (LT.cmp (op_eqU hr.units) ok_eq (LO.ofD (LD.ix (LO.s 0 (pv 0)) (LO.ofD LD.int) (fun _ _ => rfl))) (LO.ofD LD.str) (nomark _)) (LD.bin op_addD ok_add (LO.s 3 (pv 3)) (LO.s 4 (pv 4))) (LD.bin op_sub ok_sub (LO.s 3 (pv 3)) (LO.s 4 (pv 4))))))))))))) hsp
abbrev st_parted : Stmt := top 7
theorem sc_parted : FnScope N_parted ["one", "other", "clock"] (defScope st_parted) := ⟨rfl, rfl, rfl, by decide +kernel, rfl, by decide +kernel, by decide +kernel⟩
theorem cal_parted {P : Program} {w : World} {K : PySem.W.Frag} {mg : Str → Option Value} {base : Heap} {k : Nat} (hnd : base.NoDigits) (D : Dn K mg "parted" st_parted ["one", "other", "clock"]) {S_worth : FSpec} (c_worth : Cal P w K mg base k "worth" ["formula", "x", "y"] S_worth) (b_range : mg "range" = none) (g_MOST_REACH : Glb K mg "MOST_REACH" (.int 16)) {S : FSpec}
    (len : ∀ args Q, S.sp args Q → args.length = 3) (hsp : ∀ args Q, S.sp args Q → ir_parted S_worth (endsOf args Q) (rho0 N_parted args)) : Cal P w K mg base (k + 1) "parted" ["one", "other", "clock"] S := by
  have sc := sc_parted
  exact def_cal D sc len (fun f cdv A outer s H E hr hgd =>
    (LSs.cons (LS.for (pt := (.nm 3)) PassesOwn.never rfl (LI.range1 rfl b_range (LA.cons (LO.ofD (LD.bin op_addD ok_add (LO.ofD (LD.glb g_MOST_REACH rfl)) (LO.ofD LD.int))) LA.nil)) (pg_name (i := 3) sc.nd rfl (by first | exact .inl rfl | exact .inr rfl)) (LSs.one (LS.for (pt := (.nm 4)) PassesOwn.never rfl (LI.range1 rfl b_range (LA.cons (LO.ofD (LD.bin op_addD ok_add (LO.s 3 (pv 3)) (LO.ofD LD.int))) LA.nil)) (pg_name (i := 4) sc.nd rfl (by first | exact .inl rfl | exact .inr rfl)) (LSs.one (LS.ite (LT.cmp (op_neU hr.units) ok_ne (LO.ofD (LD.bin op_mod ok_mod (LO.ofD (LD.bin op_sub ok_sub (LO.ofD (LD.ofF (LF.cal c_worth hr hgd rfl (LA.cons (LO.ofD (LD.var 0 (pv 0))) (LA.cons (LO.ofD (LD.var 4 (pv 4))) (LA.cons (LO.ofD (LD.bin op_sub ok_sub (LO.s 3 (pv 3)) (LO.s 4 (pv 4)))) LA.nil)))))) (LO.ofD (LD.ofF (LF.cal c_worth hr hgd rfl (LA.cons (LO.ofD (LD.var 1 (pv 1))) (LA.cons (LO.ofD (LD.var 4 (pv 4))) (LA.cons (LO.ofD (LD.bin op_sub ok_sub (LO.s 3 (pv 3)) (LO.s 4 (pv 4)))) LA.nil)))))))) (LO.s 2 (pv 2)))) (LO.ofD LD.int) (nomark _)) (LSs.one (LS.ret (LF.ofD (LD.tup (LA.cons (LO.ofD (LD.var 4 (pv 4))) (LA.cons (LO.ofD (LD.bin op_sub ok_sub (LO.s 3 (pv 3)) (LO.s 4 (pv 4)))) LA.nil)))))) LSs.nil)))))
    (LSs.one (LS.ret (LF.ofD LD.non))))) hsp
abbrev st_differences : Stmt := top 12
theorem sc_differences : FnScope N_differences ["items"] (defScope st_differences) := ⟨rfl, rfl, rfl, by decide +kernel, rfl, by decide +kernel, by decide +kernel⟩
theorem cal_differences {P : Program} {w : World} {K : PySem.W.Frag} {mg : Str → Option Value} {base : Heap} {k : Nat} (hnd : base.NoDigits) (D : Dn K mg "differences" st_differences ["items"]) (b_zip : mg "zip" = none) {S : FSpec}
    (len : ∀ args Q, S.sp args Q → args.length = 1) (hsp : ∀ args Q, S.sp args Q → ir_differences (endsOf args Q) (rho0 N_differences args)) : Cal P w K mg base (k + 1) "differences" ["items"] S := by
  have sc := sc_differences
  exact def_cal D sc len (fun f cdv A outer s H E hr hgd =>
    (LSs.cons (LS.asg (i := 1) sc.nd rfl (by first | exact .inl rfl | exact .inr rfl) (LF.lst LA.nil))
    (LSs.cons (LS.while PassesOwn.never (LT.cmp (op_neU hr.units) ok_ne (LO.s 0 (pv 0)) (LO.ofD (LD.ofF (LF.lst LA.nil))) (nomark _)) (LSs.cons (LS.app (pe_bm PySem.F.plainAttrs_list PySem.F.slot_list_append PySem.F.type_list_append mt_append (pv 1) (pa_cons (pD (LD.ix (LO.s 0 (pv 0)) (LO.ofD LD.int) (fun _ _ => rfl))) pa_nil)))
    (LSs.one (LS.lc (i := 0) (pt := (.tp [2, 3])) (vs := [2, 3]) rfl sc.nd rfl rfl (sw_true rfl rfl rfl (by decide +kernel)) (LI.zip rfl b_zip (LA.cons (LO.ofD (LD.var 0 (pv 0))) (LA.cons (LO.ofD (LD.sl (LO.s 0 (pv 0)) (LP.some (LO.ofD LD.int)) LP.none)) LA.nil))) (blk_mk (N := N_differences) (own := [("earlier", 2), ("later", 3)]) [] (by decide +kernel) trivial) rfl (by decide) (fun _ _ _ _ _ => (pg_tup rfl (pgs_cons (pg_name (i := 2) sc.nd rfl (by first | exact .inl rfl | exact .inr rfl)) (pgs_cons (pg_name (i := 3) sc.nd rfl (by first | exact .inl rfl | exact .inr rfl)) pgs_nil)))) (fun _ _ _ _ _ => LT.yes) (fun _ _ _ _ _ => (LD.bin op_sub ok_sub (LO.s 3 (pv 3)) (LO.s 2 (pv 2))))))))
    (LSs.one (LS.retV 1 (pv 1)))))) hsp
abbrev st_square : Stmt := top 13
theorem sc_square : FnScope N_square ["formula"] (defScope st_square) := ⟨rfl, rfl, rfl, by decide +kernel, rfl, by decide +kernel, by decide +kernel⟩
theorem cal_square {P : Program} {w : World} {K : PySem.W.Frag} {mg : Str → Option Value} {base : Heap} {k : Nat} (hnd : base.NoDigits) (D : Dn K mg "square" st_square ["formula"]) {S_differences : FSpec} (c_differences : Cal P w K mg base k "differences" ["items"] S_differences) {S_worth : FSpec} (c_worth : Cal P w K mg base k "worth" ["formula", "x", "y"] S_worth) (b_range : mg "range" = none) (g_MOST_REACH : Glb K mg "MOST_REACH" (.int 16)) {S : FSpec}
    (len : ∀ args Q, S.sp args Q → args.length = 1) (hsp : ∀ args Q, S.sp args Q → ir_square S_differences S_worth (endsOf args Q) (rho0 N_square args)) : Cal P w K mg base (k + 1) "square" ["formula"] S := by
  have sc := sc_square
  exact def_cal D sc len (fun f cdv A outer s H E hr hgd =>
    (LSs.cons (LS.asg (i := 1) sc.nd rfl (by first | exact .inl rfl | exact .inr rfl) (LF.ofD (LD.bin op_addD ok_add (LO.ofD (LD.glb g_MOST_REACH rfl)) (LO.ofD LD.int))))
    (LSs.cons (LS.asg (i := 2) sc.nd rfl (by first | exact .inl rfl | exact .inr rfl) (LF.lc (pt := (.nm 4)) (vs := [4]) rfl sc.nd (LI.range1 rfl b_range (LA.cons (LO.s 1 (pv 1)) LA.nil)) (blk_mk (N := N_square) (own := [("x", 4)]) ["size", "formula"] (by decide +kernel) ⟨by first | exact .inl rfl | exact .inr rfl, by first | exact .inl rfl | exact .inr rfl, trivial⟩) rfl (by decide) (fun _ _ _ _ _ => (pg_name (i := 4) sc.nd rfl (by first | exact .inl rfl | exact .inr rfl))) (fun _ _ _ _ _ => LT.yes) (fun _ _ _ _ _ => (LD.ofF (LF.cal c_differences hr hgd rfl (LA.cons (LO.ofD (LD.ofF (LF.lc (pt := (.nm 5)) (vs := [5]) rfl sc.nd (LI.range1 rfl b_range (LA.cons (LO.s 1 (pv 1)) LA.nil)) (blk_mk (N := N_square) (own := [("y", 5)]) ["formula", "x"] (by decide +kernel) ⟨by first | exact .inl rfl | exact .inr rfl, by first | exact .inl rfl | exact .inr rfl, trivial⟩) rfl (by decide) (fun _ _ _ _ _ => (pg_name (i := 5) sc.nd rfl (by first | exact .inl rfl | exact .inr rfl))) (fun _ _ _ _ _ => LT.yes) (fun _ _ _ _ _ => (LD.ofF (LF.cal c_worth hr hgd rfl (LA.cons (LO.ofD (LD.var 0 (pv 0))) (LA.cons (LO.ofD (LD.var 4 (pv 4))) (LA.cons (LO.ofD (LD.var 5 (pv 5))) LA.nil))))))))) LA.nil))))))
    (LSs.cons (LS.asg (i := 3) sc.nd rfl (by first | exact .inl rfl | exact .inr rfl) (LF.lc (pt := (.nm 6)) (vs := [6]) rfl sc.nd (LI.range1 rfl b_range (LA.cons (LO.s 1 (pv 1)) LA.nil)) (blk_mk (N := N_square) (own := [("j", 6)]) ["size", "by_y"] (by decide +kernel) ⟨by first | exact .inl rfl | exact .inr rfl, by first | exact .inl rfl | exact .inr rfl, trivial⟩) rfl (by decide) (fun _ _ _ _ _ => (pg_name (i := 6) sc.nd rfl (by first | exact .inl rfl | exact .inr rfl))) (fun _ _ _ _ _ => LT.yes) (fun _ _ _ _ _ => (LD.ofF (LF.cal c_differences hr hgd rfl (LA.cons (LO.ofD (LD.ofF (LF.lc (pt := (.nm 4)) (vs := [4]) rfl sc.nd (LI.range1 rfl b_range (LA.cons (LO.s 1 (pv 1)) LA.nil)) (blk_mk (N := N_square) (own := [("x", 4)]) ["by_y", "j"] (by decide +kernel) ⟨by first | exact .inl rfl | exact .inr rfl, by first | exact .inl rfl | exact .inr rfl, trivial⟩) rfl (by decide) (fun _ _ _ _ _ => (pg_name (i := 4) sc.nd rfl (by first | exact .inl rfl | exact .inr rfl))) (fun _ _ _ _ _ => LT.yes) (fun _ _ _ _ _ => (LD.ix (LO.ofD (LD.ix (LO.s 2 (pv 2)) (LO.s 4 (pv 4)) (fun _ _ => rfl))) (LO.s 6 (pv 6)) (fun _ _ => rfl)))))) LA.nil))))))
    (LSs.one (LS.ret (LF.lc (pt := (.nm 7)) (vs := [7]) rfl sc.nd (LI.range1 rfl b_range (LA.cons (LO.s 1 (pv 1)) LA.nil)) (blk_mk (N := N_square) (own := [("i", 7)]) ["size", "columns"] (by decide +kernel) ⟨by first | exact .inl rfl | exact .inr rfl, by first | exact .inl rfl | exact .inr rfl, trivial⟩) rfl (by decide) (fun _ _ _ _ _ => (pg_name (i := 7) sc.nd rfl (by first | exact .inl rfl | exact .inr rfl))) (fun _ _ _ _ _ => LT.yes) (fun _ _ _ _ _ => (LD.ofF (LF.lc (pt := (.nm 6)) (vs := [6]) rfl sc.nd (LI.range1 rfl b_range (LA.cons (LO.s 1 (pv 1)) LA.nil)) (blk_mk (N := N_square) (own := [("j", 6)]) ["columns", "i"] (by decide +kernel) ⟨by first | exact .inl rfl | exact .inr rfl, by first | exact .inl rfl | exact .inr rfl, trivial⟩) rfl (by decide) (fun _ _ _ _ _ => (pg_name (i := 6) sc.nd rfl (by first | exact .inl rfl | exact .inr rfl))) (fun _ _ _ _ _ => LT.yes) (fun _ _ _ _ _ => (LD.ix (LO.ofD (LD.ix (LO.s 3 (pv 3)) (LO.s 6 (pv 6)) (fun _ _ => rfl))) (LO.s 7 (pv 7)) (fun _ _ => rfl))))))))))))) hsp
abbrev st_factorial : Stmt := top 10
theorem sc_factorial : FnScope N_factorial ["number"] (defScope st_factorial) := ⟨rfl, rfl, rfl, by decide +kernel, rfl, by decide +kernel, by decide +kernel⟩
theorem cal_factorial {P : Program} {w : World} {K : PySem.W.Frag} {mg : Str → Option Value} {base : Heap} {k : Nat} (hnd : base.NoDigits) (D : Dn K mg "factorial" st_factorial ["number"]) (b_range : mg "range" = none) {S : FSpec}
    (len : ∀ args Q, S.sp args Q → args.length = 1) (hsp : ∀ args Q, S.sp args Q → ir_factorial (endsOf args Q) (rho0 N_factorial args)) : Cal P w K mg base (k + 1) "factorial" ["number"] S := by
  have sc := sc_factorial
  exact def_cal D sc len (fun f cdv A outer s H E hr hgd =>
    (LSs.cons (LS.asg (i := 1) sc.nd rfl (by first | exact .inl rfl | exact .inr rfl) (LF.ofD LD.int))
    (LSs.cons (LS.for (pt := (.nm 2)) PassesOwn.never rfl (LI.range2 rfl b_range (LA.cons (LO.ofD LD.int) (LA.cons (LO.ofD (LD.bin op_addD ok_add (LO.s 0 (pv 0)) (LO.ofD LD.int))) LA.nil))) (pg_name (i := 2) sc.nd rfl (by first | exact .inl rfl | exact .inr rfl)) (LSs.one (LS.asg (i := 1) sc.nd rfl (by first | exact .inl rfl | exact .inr rfl) (LF.ofD (LD.bin op_mulI ok_mul (LO.s 1 (pv 1)) (LO.s 2 (pv 2)))))))
    (LSs.one (LS.retV 1 (pv 1)))))) hsp
abbrev st_rows_of : Stmt := top 14
theorem sc_rows_of : FnScope N_rows_of ["formula"] (defScope st_rows_of) := ⟨rfl, rfl, rfl, by decide +kernel, rfl, by decide +kernel, by decide +kernel⟩
theorem cal_rows_of {P : Program} {w : World} {K : PySem.W.Frag} {mg : Str → Option Value} {base : Heap} {k : Nat} (hnd : base.NoDigits) (D : Dn K mg "rows_of" st_rows_of ["formula"]) {S_square : FSpec} (c_square : Cal P w K mg base k "square" ["formula"] S_square) {S_factorial : FSpec} (c_factorial : Cal P w K mg base k "factorial" ["number"] S_factorial) (b_enumerate : mg "enumerate" = none) (b_tuple : mg "tuple" = none) {S : FSpec}
    (len : ∀ args Q, S.sp args Q → args.length = 1) (hsp : ∀ args Q, S.sp args Q → ir_rows_of S_square S_factorial (endsOf args Q) (rho0 N_rows_of args)) : Cal P w K mg base (k + 1) "rows_of" ["formula"] S := by
  have sc := sc_rows_of
  exact def_cal D sc len (fun f cdv A outer s H E hr hgd =>
    (LSs.cons (LS.asg (i := 1) sc.nd rfl (by first | exact .inl rfl | exact .inr rfl) (LF.lst LA.nil))
    (LSs.cons (LS.for (pt := (.tp [2, 3])) PassesOwn.never rfl (LI.enum rfl b_enumerate (LD.ofF (LF.cal c_square hr hgd rfl (LA.cons (LO.ofD (LD.var 0 (pv 0))) LA.nil)))) (pg_tup rfl (pgs_cons (pg_name (i := 2) sc.nd rfl (by first | exact .inl rfl | exact .inr rfl)) (pgs_cons (pg_name (i := 3) sc.nd rfl (by first | exact .inl rfl | exact .inr rfl)) pgs_nil))) (LSs.one (LS.for (pt := (.tp [4, 5])) PassesOwn.never rfl (LI.enum rfl b_enumerate (LD.var 3 (pv 3))) (pg_tup rfl (pgs_cons (pg_name (i := 4) sc.nd rfl (by first | exact .inl rfl | exact .inr rfl)) (pgs_cons (pg_name (i := 5) sc.nd rfl (by first | exact .inl rfl | exact .inr rfl)) pgs_nil))) (LSs.one (LS.ite (LT.cmp (op_neU hr.units) ok_ne (LO.s 5 (pv 5)) (LO.ofD LD.int) (nomark _)) (LSs.one (LS.app (pe_bm PySem.F.plainAttrs_list PySem.F.slot_list_append PySem.F.type_list_append mt_append (pv 1) (pa_cons (pD (LD.tup (LA.cons (LO.ofD (LD.var 2 (pv 2))) (LA.cons (LO.ofD (LD.var 4 (pv 4))) (LA.cons (LO.ofD (LD.bin op_fdivW ok_fdiv (LO.s 5 (pv 5)) (LO.ofD (LD.bin op_mulI ok_mul (LO.ofD (LD.ofF (LF.cal c_factorial hr hgd rfl (LA.cons (LO.ofD (LD.var 2 (pv 2))) LA.nil)))) (LO.ofD (LD.ofF (LF.cal c_factorial hr hgd rfl (LA.cons (LO.ofD (LD.var 4 (pv 4))) LA.nil)))))))) LA.nil))))) pa_nil)))) LSs.nil)))))
    (LSs.one (LS.ret (LF.ofD (LD.bt call_tuple_of ok_tuple rfl b_tuple (by decide +kernel) (LA.cons (LO.s 1 (pv 1)) LA.nil)))))))) hsp
abbrev st_gap : Stmt := top 16
theorem sc_gap : FnScope N_gap ["one", "other"] (defScope st_gap) := ⟨rfl, rfl, rfl, by decide +kernel, rfl, by decide +kernel, by decide +kernel⟩
theorem cal_gap {P : Program} {w : World} {K : PySem.W.Frag} {mg : Str → Option Value} {base : Heap} {k : Nat} (hnd : base.NoDigits) (D : Dn K mg "gap" st_gap ["one", "other"]) {S_rows_of : FSpec} (c_rows_of : Cal P w K mg base k "rows_of" ["formula"] S_rows_of) (b_tuple : mg "tuple" = none) (b_sorted : mg "sorted" = none) {S : FSpec}
    (len : ∀ args Q, S.sp args Q → args.length = 2) (hsp : ∀ args Q, S.sp args Q → ir_gap S_rows_of (endsOf args Q) (rho0 N_gap args)) : Cal P w K mg base (k + 1) "gap" ["one", "other"] S := by
  have sc := sc_gap
  exact def_cal D sc len (fun f cdv A outer s H E hr hgd =>
    (LSs.cons (LS.asg (i := 2) sc.nd rfl (by first | exact .inl rfl | exact .inr rfl) (LF.dcT (pt := (.tp [3, 4, 5])) (vs := [3, 4, 5]) (hu_of hr) rfl sc.nd (LI.seq (LD.ofF (LF.cal c_rows_of hr hgd rfl (LA.cons (LO.ofD (LD.var 0 (pv 0))) LA.nil)))) (blk_mk (N := N_gap) (own := [("i", 3), ("j", 4), ("c", 5)]) [] (by decide +kernel) trivial) rfl (by decide) (fun _ _ _ _ _ => (pg_tup rfl (pgs_cons (pg_name (i := 3) sc.nd rfl (by first | exact .inl rfl | exact .inr rfl)) (pgs_cons (pg_name (i := 4) sc.nd rfl (by first | exact .inl rfl | exact .inr rfl)) (pgs_cons (pg_name (i := 5) sc.nd rfl (by first | exact .inl rfl | exact .inr rfl)) pgs_nil))))) (fun _ _ _ _ _ => LT.yes) (fun _ _ _ _ _ => (LK.tup (LA.cons (LO.ofD (LD.var 3 (pv 3))) (LA.cons (LO.ofD (LD.var 4 (pv 4))) LA.nil)))) (fun _ _ _ _ _ => (LD.var 5 (pv 5)))))
    (LSs.cons (LS.for (pt := (.tp [3, 4, 5])) PassesOwn.never rfl (LI.seq (LD.ofF (LF.cal c_rows_of hr hgd rfl (LA.cons (LO.ofD (LD.var 1 (pv 1))) LA.nil)))) (pg_tup rfl (pgs_cons (pg_name (i := 3) sc.nd rfl (by first | exact .inl rfl | exact .inr rfl)) (pgs_cons (pg_name (i := 4) sc.nd rfl (by first | exact .inl rfl | exact .inr rfl)) (pgs_cons (pg_name (i := 5) sc.nd rfl (by first | exact .inl rfl | exact .inr rfl)) pgs_nil)))) (LSs.one (LS.dtK (hu_of hr) (LD.bin op_sub ok_sub (LO.ofD (LD.getT (hu_of hr) (pv 2) (LK.tup (LA.cons (LO.ofD (LD.var 3 (pv 3))) (LA.cons (LO.ofD (LD.var 4 (pv 4))) LA.nil))) (LO.ofD LD.int) ⟨rfl, rfl, rfl, rfl⟩)) (LO.s 5 (pv 5))) (pv 2) (LK.tup (LA.cons (LO.ofD (LD.var 3 (pv 3))) (LA.cons (LO.ofD (LD.var 4 (pv 4))) LA.nil))))))
    (LSs.one (LS.ret (LF.ofD (LD.bt call_tuple_of ok_tuple rfl b_tuple (by decide +kernel) (LA.cons (LO.ofD (LD.ofF (LF.lc (pt := (.tp [3, 4])) (vs := [3, 4]) rfl sc.nd (LI.seq (LD.sortT rfl rfl b_sorted (by decide +kernel) (pv 2))) (blk_mk (N := N_gap) (own := [("i", 3), ("j", 4)]) ["found"] (by decide +kernel) ⟨by first | exact .inl rfl | exact .inr rfl, trivial⟩) rfl (by decide) (fun _ _ _ _ _ => (pg_tup rfl (pgs_cons (pg_name (i := 3) sc.nd rfl (by first | exact .inl rfl | exact .inr rfl)) (pgs_cons (pg_name (i := 4) sc.nd rfl (by first | exact .inl rfl | exact .inr rfl)) pgs_nil)))) (fun _ _ _ _ _ => pts_one (pT (LT.cmp (op_neU hr.units) ok_ne (LO.ofD (LD.ixT (hu_of hr) (pv 2) (LK.tup (LA.cons (LO.ofD (LD.var 3 (pv 3))) (LA.cons (LO.ofD (LD.var 4 (pv 4))) LA.nil))) (fun _ _ => rfl))) (LO.ofD LD.int) (nomark _)))) (fun _ _ _ _ _ => (LD.tup (LA.cons (LO.ofD (LD.var 3 (pv 3))) (LA.cons (LO.ofD (LD.var 4 (pv 4))) (LA.cons (LO.ofD (LD.ixT (hu_of hr) (pv 2) (LK.tup (LA.cons (LO.ofD (LD.var 3 (pv 3))) (LA.cons (LO.ofD (LD.var 4 (pv 4))) LA.nil))) (fun _ _ => rfl))) LA.nil)))))))) LA.nil)))))))) hsp
abbrev st_common : Stmt := top 9
theorem sc_common : FnScope N_common ["one", "other"] (defScope st_common) := ⟨rfl, rfl, rfl, by decide +kernel, rfl, by decide +kernel, by decide +kernel⟩
theorem cal_common {P : Program} {w : World} {K : PySem.W.Frag} {mg : Str → Option Value} {base : Heap} {k : Nat} (hnd : base.NoDigits) (D : Dn K mg "common" st_common ["one", "other"]) {S : FSpec}
    (len : ∀ args Q, S.sp args Q → args.length = 2) (hsp : ∀ args Q, S.sp args Q → ir_common (endsOf args Q) (rho0 N_common args)) : Cal P w K mg base (k + 1) "common" ["one", "other"] S := by
  have sc := sc_common
  exact def_cal D sc len (fun f cdv A outer s H E hr hgd =>
    (LSs.cons (LS.while PassesOwn.never (LT.cmp op_gt (ok_cI _) (LO.s 1 (pv 1)) (LO.ofD LD.int) (nomark _)) (LSs.one (LS.par (i := 0) (j := 1) rfl sc.nd rfl rfl (by decide) rfl rfl (LF.ofD (LD.var 1 (pv 1))) (LF.ofD (LD.bin op_mod ok_mod (LO.s 0 (pv 0)) (LO.s 1 (pv 1)))) rfl)))
    (LSs.one (LS.retV 0 (pv 0))))) hsp
abbrev st_step_of : Stmt := top 11
theorem sc_step_of : FnScope N_step_of ["clock", "i", "j"] (defScope st_step_of) := ⟨rfl, rfl, rfl, by decide +kernel, rfl, by decide +kernel, by decide +kernel⟩
theorem cal_step_of {P : Program} {w : World} {K : PySem.W.Frag} {mg : Str → Option Value} {base : Heap} {k : Nat} (hnd : base.NoDigits) (D : Dn K mg "step_of" st_step_of ["clock", "i", "j"]) {S_common : FSpec} (c_common : Cal P w K mg base k "common" ["one", "other"] S_common) {S_factorial : FSpec} (c_factorial : Cal P w K mg base k "factorial" ["number"] S_factorial) {S : FSpec}
    (len : ∀ args Q, S.sp args Q → args.length = 3) (hsp : ∀ args Q, S.sp args Q → ir_step_of S_common S_factorial (endsOf args Q) (rho0 N_step_of args)) : Cal P w K mg base (k + 1) "step_of" ["clock", "i", "j"] S := by
  have sc := sc_step_of
  exact def_cal D sc len (fun f cdv A outer s H E hr hgd =>
    (LSs.one (LS.ret (LF.ofD (LD.bin op_fdivW ok_fdiv (LO.s 0 (pv 0)) (LO.ofD (LD.ofF (LF.cal c_common hr hgd rfl (LA.cons (LO.ofD (LD.var 0 (pv 0))) (LA.cons (LO.ofD (LD.bin op_mulI ok_mul (LO.ofD (LD.ofF (LF.cal c_factorial hr hgd rfl (LA.cons (LO.ofD (LD.var 1 (pv 1))) LA.nil)))) (LO.ofD (LD.ofF (LF.cal c_factorial hr hgd rfl (LA.cons (LO.ofD (LD.var 2 (pv 2))) LA.nil)))))) LA.nil)))))))))) hsp
abbrev st_paper : Stmt := top 17
theorem sc_paper : FnScope N_paper ["one", "other", "clock"] (defScope st_paper) := ⟨rfl, rfl, rfl, by decide +kernel, rfl, by decide +kernel, by decide +kernel⟩
theorem cal_paper {P : Program} {w : World} {K : PySem.W.Frag} {mg : Str → Option Value} {base : Heap} {k : Nat} (hnd : base.NoDigits) (D : Dn K mg "paper" st_paper ["one", "other", "clock"]) {S_parted : FSpec} (c_parted : Cal P w K mg base k "parted" ["one", "other", "clock"] S_parted) {S_gap : FSpec} (c_gap : Cal P w K mg base k "gap" ["one", "other"] S_gap) {S_step_of : FSpec} (c_step_of : Cal P w K mg base k "step_of" ["clock", "i", "j"] S_step_of) (b_tuple : mg "tuple" = none) {S : FSpec}
    (len : ∀ args Q, S.sp args Q → args.length = 3) (hsp : ∀ args Q, S.sp args Q → ir_paper S_parted S_gap S_step_of (endsOf args Q) (rho0 N_paper args)) : Cal P w K mg base (k + 1) "paper" ["one", "other", "clock"] S := by
  have sc := sc_paper
  exact def_cal D sc len (fun f cdv A outer s H E hr hgd =>
    (LSs.cons (LS.asg (i := 3) sc.nd rfl (by first | exact .inl rfl | exact .inr rfl) (LF.cal c_parted hr hgd rfl (LA.cons (LO.ofD (LD.var 0 (pv 0))) (LA.cons (LO.ofD (LD.var 1 (pv 1))) (LA.cons (LO.ofD (LD.var 2 (pv 2))) LA.nil)))))
    (LSs.cons (LS.ite (LT.cmp op_notN ok_notN (LO.s 3 (pv 3)) (LO.ofD LD.non) (nomark _)) (LSs.one (LS.ret (LF.ofD (LD.bin op_addD ok_add (LO.ofD (LD.tup (LA.cons (LO.ofD LD.str) LA.nil))) (LO.s 3 (pv 3)))))) LSs.nil)
    (LSs.one (LS.ret (LF.ofD (LD.tup (LA.cons (LO.ofD LD.str) (LA.cons (LO.ofD (LD.bt call_tuple_of ok_tuple rfl b_tuple (by decide +kernel) (LA.cons (LO.ofD (LD.ofF (LF.lc (pt := (.tp [4, 5, 6])) (vs := [4, 5, 6]) rfl sc.nd (LI.seq (LD.ofF (LF.cal c_gap hr hgd rfl (LA.cons (LO.ofD (LD.var 0 (pv 0))) (LA.cons (LO.ofD (LD.var 1 (pv 1))) LA.nil))))) (blk_mk (N := N_paper) (own := [("i", 4), ("j", 5), ("c", 6)]) ["clock"] (by decide +kernel) ⟨by first | exact .inl rfl | exact .inr rfl, trivial⟩) rfl (by decide) (fun _ _ _ _ _ => (pg_tup rfl (pgs_cons (pg_name (i := 4) sc.nd rfl (by first | exact .inl rfl | exact .inr rfl)) (pgs_cons (pg_name (i := 5) sc.nd rfl (by first | exact .inl rfl | exact .inr rfl)) (pgs_cons (pg_name (i := 6) sc.nd rfl (by first | exact .inl rfl | exact .inr rfl)) pgs_nil))))) (fun _ _ _ _ _ => LT.yes) (fun _ _ _ _ _ => (LD.tup (LA.cons (LO.ofD (LD.var 4 (pv 4))) (LA.cons (LO.ofD (LD.var 5 (pv 5))) (LA.cons (LO.ofD (LD.bin op_fdivW ok_fdiv (LO.s 6 (pv 6)) (LO.ofD (LD.ofF (LF.cal c_step_of hr hgd rfl (LA.cons (LO.ofD (LD.var 2 (pv 2))) (LA.cons (LO.ofD (LD.var 4 (pv 4))) (LA.cons (LO.ofD (LD.var 5 (pv 5))) LA.nil)))))))) LA.nil)))))))) LA.nil))) LA.nil))))))))) hsp
abbrev st_law_is_whole_93bd : Stmt := top 39
theorem sc_law_is_whole_93bd : FnScope N_law_is_whole_93bd ["value"] (defScope st_law_is_whole_93bd) := ⟨rfl, rfl, rfl, by decide +kernel, rfl, by decide +kernel, by decide +kernel⟩
theorem cal_law_is_whole_93bd {P : Program} {w : World} {K : PySem.W.Frag} {mg : Str → Option Value} {base : Heap} {k : Nat} (hnd : base.NoDigits) (D : Dn K mg "_law_is_whole" st_law_is_whole_93bd ["value"]) (b_isinstance : mg "isinstance" = none) (b_bool : mg "bool" = none) (b_int : mg "int" = none) {S : FSpec}
    (len : ∀ args Q, S.sp args Q → args.length = 1) (hsp : ∀ args Q, S.sp args Q → ir_law_is_whole_93bd (endsOf args Q) (rho0 N_law_is_whole_93bd args)) : Cal P w K mg base (k + 1) "_law_is_whole" ["value"] S := by
  have sc := sc_law_is_whole_93bd
  exact def_cal D sc len (fun f cdv A outer s H E hr hgd =>
    (LSs.one (LS.ret (LF.ofD (LD.and (LD.isi "int" (by simp) rfl b_isinstance rfl b_int (by decide +kernel) (LO.s 0 (pv 0))) (LD.one (LD.not (LD.isi "bool" (by simp) rfl b_isinstance rfl b_bool (by decide +kernel) (LO.s 0 (pv 0)))))))))) hsp
abbrev st_law_is_entry_6be6 : Stmt := top 40
theorem sc_law_is_entry_6be6 : FnScope N_law_is_entry_6be6 ["value"] (defScope st_law_is_entry_6be6) := ⟨rfl, rfl, rfl, by decide +kernel, rfl, by decide +kernel, by decide +kernel⟩
theorem cal_law_is_entry_6be6 {P : Program} {w : World} {K : PySem.W.Frag} {mg : Str → Option Value} {base : Heap} {k : Nat} (hnd : base.NoDigits) (D : Dn K mg "_law_is_entry" st_law_is_entry_6be6 ["value"]) {S_law_is_whole_93bd : FSpec} (c_law_is_whole_93bd : Cal P w K mg base k "_law_is_whole" ["value"] S_law_is_whole_93bd) (b_len : mg "len" = none) (b_isinstance : mg "isinstance" = none) (b_tuple : mg "tuple" = none) {S : FSpec}
    (len : ∀ args Q, S.sp args Q → args.length = 1) (hsp : ∀ args Q, S.sp args Q → ir_law_is_entry_6be6 S_law_is_whole_93bd (endsOf args Q) (rho0 N_law_is_entry_6be6 args)) : Cal P w K mg base (k + 1) "_law_is_entry" ["value"] S := by
  have sc := sc_law_is_entry_6be6
  exact def_cal D sc len (fun f cdv A outer s H E hr hgd =>
    (LSs.cons (LS.ite (LT.w (LW.or (LT.not (LT.val (LD.isi "tuple" (by simp) rfl b_isinstance rfl b_tuple (by decide +kernel) (LO.s 0 (pv 0))))) (LW.or (LT.cmp (op_neU hr.units) ok_ne (LO.ofD (LD.bi call_lenU ok_len rfl b_len (by decide +kernel) (LA.cons (LO.s 0 (pv 0)) LA.nil))) (LO.ofD LD.int) (nomark _)) (LW.or1 (LT.cmp (op_neU hr.units) ok_ne (LO.ofD (LD.ofF (LF.lc (pt := (.nm 1)) (vs := [1]) rfl sc.nd (LI.own 0 (pv 0)) (blk_mk (N := N_law_is_entry_6be6) (own := [("one", 1)]) [] (by decide +kernel) trivial) rfl (by decide) (fun _ _ _ _ _ => (pg_name (i := 1) sc.nd rfl (by first | exact .inl rfl | exact .inr rfl))) (fun _ _ _ _ _ => pts_one (pT (LT.not (LT.val (LD.ofF (LF.cal c_law_is_whole_93bd hr hgd rfl (LA.cons (LO.ofD (LD.var 1 (pv 1))) LA.nil))))))) (fun _ _ _ _ _ => LD.int)))) (LO.ofD (LD.ofF (LF.lst LA.nil))) (nomark _)))))) (LSs.one (LS.ret (LF.ofD LD.bl))) LSs.nil)
    (LSs.one (LS.ret (LF.ofD (LD.and (LD.chain op_le op_le (LO.ofD LD.int) (LO.ofD (LD.ix (LO.s 0 (pv 0)) (LO.ofD LD.int) (fun _ _ => rfl))) (LO.ofD LD.int)) (LD.and (LD.chain op_le op_le (LO.ofD LD.int) (LO.ofD (LD.ix (LO.s 0 (pv 0)) (LO.ofD LD.int) (fun _ _ => rfl))) (LO.ofD LD.int)) (LD.one (LD.cmp (op_neU hr.units) ok_ne (LO.ofD (LD.ix (LO.s 0 (pv 0)) (LO.ofD LD.int) (fun _ _ => rfl))) (LO.ofD LD.int) (nomark _)))))))))) hsp
abbrev st_law_step_b26f : Stmt := top 35
theorem sc_law_step_b26f : FnScope N_law_step_b26f ["clock", "i", "j"] (defScope st_law_step_b26f) := ⟨rfl, rfl, rfl, by decide +kernel, rfl, by decide +kernel, by decide +kernel⟩
theorem cal_law_step_b26f {P : Program} {w : World} {K : PySem.W.Frag} {mg : Str → Option Value} {base : Heap} {k : Nat} (hnd : base.NoDigits) (D : Dn K mg "_law_step" st_law_step_b26f ["clock", "i", "j"]) {S_law_common_ae84 : FSpec} (c_law_common_ae84 : Cal P w K mg base k "_law_common" ["one", "other"] S_law_common_ae84) {S_law_falling_d92b : FSpec} (c_law_falling_d92b : Cal P w K mg base k "_law_falling" ["x", "many"] S_law_falling_d92b) {S : FSpec}
    (len : ∀ args Q, S.sp args Q → args.length = 3) (hsp : ∀ args Q, S.sp args Q → ir_law_step_b26f S_law_common_ae84 S_law_falling_d92b (endsOf args Q) (rho0 N_law_step_b26f args)) : Cal P w K mg base (k + 1) "_law_step" ["clock", "i", "j"] S := by
  have sc := sc_law_step_b26f
  exact def_cal D sc len (fun f cdv A outer s H E hr hgd =>
    (LSs.one (LS.ret (LF.ofD (LD.bin op_fdivW ok_fdiv (LO.s 0 (pv 0)) (LO.ofD (LD.ofF (LF.cal c_law_common_ae84 hr hgd rfl (LA.cons (LO.ofD (LD.var 0 (pv 0))) (LA.cons (LO.ofD (LD.bin op_mulI ok_mul (LO.ofD (LD.ofF (LF.cal c_law_falling_d92b hr hgd rfl (LA.cons (LO.ofD (LD.var 1 (pv 1))) (LA.cons (LO.ofD (LD.var 1 (pv 1))) LA.nil))))) (LO.ofD (LD.ofF (LF.cal c_law_falling_d92b hr hgd rfl (LA.cons (LO.ofD (LD.var 2 (pv 2))) (LA.cons (LO.ofD (LD.var 2 (pv 2))) LA.nil))))))) LA.nil)))))))))) hsp
abbrev st_law_worth_98b9 : Stmt := top 32
theorem sc_law_worth_98b9 : FnScope N_law_worth_98b9 ["formula", "x", "y"] (defScope st_law_worth_98b9) := ⟨rfl, rfl, rfl, by decide +kernel, rfl, by decide +kernel, by decide +kernel⟩
theorem cal_law_worth_98b9 {P : Program} {w : World} {K : PySem.W.Frag} {mg : Str → Option Value} {base : Heap} {k : Nat} (hnd : base.NoDigits) (D : Dn K mg "_law_worth" st_law_worth_98b9 ["formula", "x", "y"]) {S_law_worth_98b9 : FSpec} (c_law_worth_98b9 : Cal P w K mg base k "_law_worth" ["formula", "x", "y"] S_law_worth_98b9) (b_isinstance : mg "isinstance" = none) (b_str : mg "str" = none) (b_int : mg "int" = none) (b_range : mg "range" = none) {S : FSpec}
    (len : ∀ args Q, S.sp args Q → args.length = 3) (hsp : ∀ args Q, S.sp args Q → ir_law_worth_98b9 S_law_worth_98b9 (endsOf args Q) (rho0 N_law_worth_98b9 args)) : Cal P w K mg base (k + 1) "_law_worth" ["formula", "x", "y"] S := by
  have sc := sc_law_worth_98b9
  exact def_cal D sc len (fun f cdv A outer s H E hr hgd =>
    (LSs.cons (LS.ite (LT.val (LD.isi "str" (by simp) rfl b_isinstance rfl b_str (by decide +kernel) (LO.s 0 (pv 0)))) (LSs.one (LS.ret (LF.ofD (LD.ite (LT.cmp (op_eqU hr.units) ok_eq (LO.s 0 (pv 0)) (LO.ofD LD.str) (nomark _)) (LD.var 1 (pv 1)) (LD.var 2 (pv 2)))))) LSs.nil)
    (LSs.cons (LS.ite (LT.val (LD.isi "int" (by simp) rfl b_isinstance rfl b_int (by decide +kernel) (LO.s 0 (pv 0)))) (LSs.one (LS.retV 0 (pv 0))) LSs.nil)
    (LSs.cons (LS.par (i := 3) (j := 4) rfl sc.nd rfl rfl (by decide) rfl rfl (LF.cal c_law_worth_98b9 hr hgd rfl (LA.cons (LO.ofD (LD.ix (LO.s 0 (pv 0)) (LO.ofD LD.int) (fun _ _ => rfl))) (LA.cons (LO.ofD (LD.var 1 (pv 1))) (LA.cons (LO.ofD (LD.var 2 (pv 2))) LA.nil)))) (LF.ofD LD.int) rfl)
    (LSs.cons (LS.ite (LT.cmp (op_eqU hr.units) ok_eq (LO.ofD (LD.ix (LO.s 0 (pv 0)) (LO.ofD LD.int) (fun _ _ => rfl))) (LO.ofD LD.str) (nomark _)) (LSs.cons (LS.for (pt := (.nm 5)) PassesOwn.never rfl (LI.range1 rfl b_range (LA.cons (LO.ofD (LD.ix (LO.s 0 (pv 0)) (LO.ofD LD.int) (fun _ _ => rfl))) LA.nil)) (pg_name (i := 5) sc.nd rfl (by first | exact .inl rfl | exact .inr rfl)) (LSs.one (LS.asg (i := 4) sc.nd rfl (by first | exact .inl rfl | exact .inr rfl) (LF.ofD (LD.bin op_mulI ok_mul (LO.s 4 (pv 4)) (LO.s 3 (pv 3)))))))
    (LSs.one (LS.retV 4 (pv 4)))) LSs.nil)
    (LSs.cons (LS.asg (i := 6) sc.nd rfl (by first | exact .inl rfl | exact .inr rfl) (LF.cal c_law_worth_98b9 hr hgd rfl (LA.cons (LO.ofD (LD.ix (LO.s 0 (pv 0)) (LO.ofD LD.int) (fun _ _ => rfl))) (LA.cons (LO.ofD (LD.var 1 (pv 1))) (LA.cons (LO.ofD (LD.var 2 (pv 2))) LA.nil)))))
    (LSs.cons (LS.ite (LT.cmp (op_eqU hr.units) ok_eq (LO.ofD (LD.ix (LO.s 0 (pv 0)) (LO.ofD LD.int) (fun _ _ => rfl))) (LO.ofD LD.str) (nomark _)) (LSs.one (LS.ret (LF.ofD (LD.bin op_mulI ok_mul (LO.s 3 (pv 3)) (LO.s 6 (pv 6)))))) LSs.nil)
    (LSs.one (LS.ret (LF.ofD (LD.ite (LT.cmp (op_eqU hr.units) ok_eq (LO.ofD (LD.ix (LO.s 0 (pv 0)) (LO.ofD LD.int) (fun _ _ => rfl))) (LO.ofD LD.str) (nomark _)) (LD.bin op_addD ok_add (LO.s 3 (pv 3)) (LO.s 6 (pv 6))) (LD.bin op_sub ok_sub (LO.s 3 (pv 3)) (LO.s 6 (pv 6)))))))))))))) hsp
abbrev st_law_adds_up_a28d : Stmt := top 41
theorem sc_law_adds_up_a28d : FnScope N_law_adds_up_a28d ["one", "other", "clock", "entries"] (defScope st_law_adds_up_a28d) := ⟨rfl, rfl, rfl, by decide +kernel, rfl, by decide +kernel, by decide +kernel⟩
theorem cal_law_adds_up_a28d {P : Program} {w : World} {K : PySem.W.Frag} {mg : Str → Option Value} {base : Heap} {k : Nat} (hnd : base.NoDigits) (D : Dn K mg "_law_adds_up" st_law_adds_up_a28d ["one", "other", "clock", "entries"]) {S_law_step_b26f : FSpec} (c_law_step_b26f : Cal P w K mg base k "_law_step" ["clock", "i", "j"] S_law_step_b26f) {S_law_worth_98b9 : FSpec} (c_law_worth_98b9 : Cal P w K mg base k "_law_worth" ["formula", "x", "y"] S_law_worth_98b9) {S_law_falling_d92b : FSpec} (c_law_falling_d92b : Cal P w K mg base k "_law_falling" ["x", "many"] S_law_falling_d92b) (b_range : mg "range" = none) (b_sum : mg "sum" = none) {S : FSpec}
    (len : ∀ args Q, S.sp args Q → args.length = 4) (hsp : ∀ args Q, S.sp args Q → ir_law_adds_up_a28d S_law_step_b26f S_law_worth_98b9 S_law_falling_d92b (endsOf args Q) (rho0 N_law_adds_up_a28d args)) : Cal P w K mg base (k + 1) "_law_adds_up" ["one", "other", "clock", "entries"] S := by
  have sc := sc_law_adds_up_a28d
  exact def_cal D sc len (fun f cdv A outer s H E hr hgd =>
    (LSs.cons (LS.lc (i := 4) (pt := (.tp [8, 9, 10])) (vs := [8, 9, 10]) rfl sc.nd rfl rfl (sw_true rfl rfl rfl (by decide +kernel)) (LI.own 3 (pv 3)) (blk_mk (N := N_law_adds_up_a28d) (own := [("i", 8), ("j", 9), ("a", 10)]) ["clock"] (by decide +kernel) ⟨by first | exact .inl rfl | exact .inr rfl, trivial⟩) rfl (by decide) (fun _ _ _ _ _ => (pg_tup rfl (pgs_cons (pg_name (i := 8) sc.nd rfl (by first | exact .inl rfl | exact .inr rfl)) (pgs_cons (pg_name (i := 9) sc.nd rfl (by first | exact .inl rfl | exact .inr rfl)) (pgs_cons (pg_name (i := 10) sc.nd rfl (by first | exact .inl rfl | exact .inr rfl)) pgs_nil))))) (fun _ _ _ _ _ => LT.yes) (fun _ _ _ _ _ => (LD.tup (LA.cons (LO.ofD (LD.var 8 (pv 8))) (LA.cons (LO.ofD (LD.var 9 (pv 9))) (LA.cons (LO.ofD (LD.bin op_mulI ok_mul (LO.s 10 (pv 10)) (LO.ofD (LD.ofF (LF.cal c_law_step_b26f hr hgd rfl (LA.cons (LO.ofD (LD.var 2 (pv 2))) (LA.cons (LO.ofD (LD.var 8 (pv 8))) (LA.cons (LO.ofD (LD.var 9 (pv 9))) LA.nil)))))))) LA.nil))))))
    (LSs.cons (LS.for (pt := (.nm 5)) PassesOwn.never rfl (LI.range1 rfl b_range (LA.cons (LO.ofD LD.int) LA.nil)) (pg_name (i := 5) sc.nd rfl (by first | exact .inl rfl | exact .inr rfl)) (LSs.one (LS.for (pt := (.nm 6)) PassesOwn.never rfl (LI.range1 rfl b_range (LA.cons (LO.ofD LD.int) LA.nil)) (pg_name (i := 6) sc.nd rfl (by first | exact .inl rfl | exact .inr rfl)) (LSs.cons (LS.asg (i := 7) sc.nd rfl (by first | exact .inl rfl | exact .inr rfl) (LF.ofD (LD.bin op_sub ok_sub (LO.ofD (LD.ofF (LF.cal c_law_worth_98b9 hr hgd rfl (LA.cons (LO.ofD (LD.var 0 (pv 0))) (LA.cons (LO.ofD (LD.var 5 (pv 5))) (LA.cons (LO.ofD (LD.var 6 (pv 6))) LA.nil)))))) (LO.ofD (LD.ofF (LF.cal c_law_worth_98b9 hr hgd rfl (LA.cons (LO.ofD (LD.var 1 (pv 1))) (LA.cons (LO.ofD (LD.var 5 (pv 5))) (LA.cons (LO.ofD (LD.var 6 (pv 6))) LA.nil)))))))))
    (LSs.one (LS.ite (LT.cmp (op_neU hr.units) ok_ne (LO.ofD (LD.bi (cr_sum rfl) ok_sum rfl b_sum (by decide +kernel) (LA.cons (LO.ofD (LD.ofF (LF.lc (pt := (.tp [8, 9, 11])) (vs := [8, 9, 11]) rfl sc.nd (LI.own 4 (pv 4)) (blk_mk (N := N_law_adds_up_a28d) (own := [("i", 8), ("j", 9), ("c", 11)]) ["x", "y"] (by decide +kernel) ⟨by first | exact .inl rfl | exact .inr rfl, by first | exact .inl rfl | exact .inr rfl, trivial⟩) rfl (by decide) (fun _ _ _ _ _ => (pg_tup rfl (pgs_cons (pg_name (i := 8) sc.nd rfl (by first | exact .inl rfl | exact .inr rfl)) (pgs_cons (pg_name (i := 9) sc.nd rfl (by first | exact .inl rfl | exact .inr rfl)) (pgs_cons (pg_name (i := 11) sc.nd rfl (by first | exact .inl rfl | exact .inr rfl)) pgs_nil))))) (fun _ _ _ _ _ => LT.yes) (fun _ _ _ _ _ => (LD.bin op_mulI ok_mul (LO.ofD (LD.bin op_mulI ok_mul (LO.s 11 (pv 11)) (LO.ofD (LD.ofF (LF.cal c_law_falling_d92b hr hgd rfl (LA.cons (LO.ofD (LD.var 5 (pv 5))) (LA.cons (LO.ofD (LD.var 8 (pv 8))) LA.nil))))))) (LO.ofD (LD.ofF (LF.cal c_law_falling_d92b hr hgd rfl (LA.cons (LO.ofD (LD.var 6 (pv 6))) (LA.cons (LO.ofD (LD.var 9 (pv 9))) LA.nil)))))))))) LA.nil))) (LO.s 7 (pv 7)) (nomark _)) (LSs.one (LS.ret (LF.ofD LD.bl))) LSs.nil))))))
    (LSs.one (LS.ret (LF.ofD LD.bl)))))) hsp
abbrev st_law_due_4155 : Stmt := top 42
theorem sc_law_due_4155 : FnScope N_law_due_4155 ["one", "other", "clock", "value"] (defScope st_law_due_4155) := ⟨rfl, rfl, rfl, by decide +kernel, rfl, by decide +kernel, by decide +kernel⟩
theorem cal_law_due_4155 {P : Program} {w : World} {K : PySem.W.Frag} {mg : Str → Option Value} {base : Heap} {k : Nat} (hnd : base.NoDigits) (D : Dn K mg "_law_due" st_law_due_4155 ["one", "other", "clock", "value"]) {S_law_is_entry_6be6 : FSpec} (c_law_is_entry_6be6 : Cal P w K mg base k "_law_is_entry" ["value"] S_law_is_entry_6be6) {S_law_adds_up_a28d : FSpec} (c_law_adds_up_a28d : Cal P w K mg base k "_law_adds_up" ["one", "other", "clock", "entries"] S_law_adds_up_a28d) {S_law_is_whole_93bd : FSpec} (c_law_is_whole_93bd : Cal P w K mg base k "_law_is_whole" ["value"] S_law_is_whole_93bd) {S_law_worth_98b9 : FSpec} (c_law_worth_98b9 : Cal P w K mg base k "_law_worth" ["formula", "x", "y"] S_law_worth_98b9) (b_isinstance : mg "isinstance" = none) (b_tuple : mg "tuple" = none) (b_repr : mg "repr" = none) (b_len : mg "len" = none) (b_range : mg "range" = none) {S : FSpec}
    (len : ∀ args Q, S.sp args Q → args.length = 4) (hsp : ∀ args Q, S.sp args Q → ir_law_due_4155 S_law_is_entry_6be6 S_law_adds_up_a28d S_law_is_whole_93bd S_law_worth_98b9 (endsOf args Q) (rho0 N_law_due_4155 args)) : Cal P w K mg base (k + 1) "_law_due" ["one", "other", "clock", "value"] S := by
  have sc := sc_law_due_4155
  exact def_cal D sc len (fun f cdv A outer s H E hr hgd =>
    (LSs.cons (LS.ite (LT.w (LW.and (LT.val (LD.isi "tuple" (by simp) rfl b_isinstance rfl b_tuple (by decide +kernel) (LO.s 3 (pv 3)))) (LW.and (LT.cmp (op_eqU hr.units) ok_eq (LO.ofD (LD.bi call_lenU ok_len rfl b_len (by decide +kernel) (LA.cons (LO.s 3 (pv 3)) LA.nil))) (LO.ofD LD.int) (nomark _)) (LW.and (LT.cmp (op_eqU hr.units) ok_eq (LO.ofD (LD.bi (call_repr hr hgd hnd) ok_repr rfl b_repr (by decide +kernel) (LA.cons (LO.ofD (LD.ix (LO.s 3 (pv 3)) (LO.ofD LD.int) (fun _ _ => rfl))) LA.nil))) (LO.ofD (LD.bi (call_repr hr hgd hnd) ok_repr rfl b_repr (by decide +kernel) (LA.cons (LO.ofD LD.str) LA.nil))) (nomark _)) (LW.and1 (LT.val (LD.isi "tuple" (by simp) rfl b_isinstance rfl b_tuple (by decide +kernel) (LO.ofD (LD.ix (LO.s 3 (pv 3)) (LO.ofD LD.int) (fun _ _ => rfl)))))))))) (LSs.cons (LS.for (pt := (.nm 4)) PassesOwn.never rfl (LI.range1 rfl b_range (LA.cons (LO.ofD (LD.bi call_lenU ok_len rfl b_len (by decide +kernel) (LA.cons (LO.ofD (LD.ix (LO.s 3 (pv 3)) (LO.ofD LD.int) (fun _ _ => rfl))) LA.nil))) LA.nil)) (pg_name (i := 4) sc.nd rfl (by first | exact .inl rfl | exact .inr rfl)) (LSs.cons (LS.asg (i := 5) sc.nd rfl (by first | exact .inl rfl | exact .inr rfl) (LF.ofD (LD.ix (LO.ofD (LD.ix (LO.s 3 (pv 3)) (LO.ofD LD.int) (fun _ _ => rfl))) (LO.s 4 (pv 4)) (fun _ _ => rfl))))
    (LSs.one (LS.ite (LT.w (LW.or (LT.not (LT.val (LD.ofF (LF.cal c_law_is_entry_6be6 hr hgd rfl (LA.cons (LO.ofD (LD.var 5 (pv 5))) LA.nil))))) (LW.or1 (LT.w (LW.and (LT.cmp op_gt (ok_cI _) (LO.s 4 (pv 4)) (LO.ofD LD.int) (nomark _)) (LW.and1 (LT.cmp (op_le2 hr.units) ok_le2 (LO.ofD (LD.sl (LO.s 5 (pv 5)) LP.none (LP.some (LO.ofD LD.int)))) (LO.ofD (LD.sl (LO.ofD (LD.ix (LO.ofD (LD.ix (LO.s 3 (pv 3)) (LO.ofD LD.int) (fun _ _ => rfl))) (LO.ofD (LD.bin op_sub ok_sub (LO.s 4 (pv 4)) (LO.ofD LD.int))) (fun _ _ => rfl))) LP.none (LP.some (LO.ofD LD.int)))) (nomark _)))))))) (LSs.one (LS.ret (LF.lst (LA.cons (LO.ofD LD.str) (LA.cons (LO.ofD (LD.var 4 (pv 4))) LA.nil))))) LSs.nil))))
    (LSs.one (LS.ret (LF.ofD (LD.ite (LT.val (LD.ofF (LF.cal c_law_adds_up_a28d hr hgd rfl (LA.cons (LO.ofD (LD.var 0 (pv 0))) (LA.cons (LO.ofD (LD.var 1 (pv 1))) (LA.cons (LO.ofD (LD.var 2 (pv 2))) (LA.cons (LO.ofD (LD.ix (LO.s 3 (pv 3)) (LO.ofD LD.int) (fun _ _ => rfl))) LA.nil))))))) LD.bl (LD.ofF (LF.lst (LA.cons (LO.ofD LD.str) (LA.cons (LO.ofD (LD.neg (LO.ofD LD.int))) LA.nil))))))))) LSs.nil)
    (LSs.cons (LS.ite (LT.w (LW.or (LT.not (LT.val (LD.isi "tuple" (by simp) rfl b_isinstance rfl b_tuple (by decide +kernel) (LO.s 3 (pv 3))))) (LW.or (LT.cmp (op_neU hr.units) ok_ne (LO.ofD (LD.bi call_lenU ok_len rfl b_len (by decide +kernel) (LA.cons (LO.s 3 (pv 3)) LA.nil))) (LO.ofD LD.int) (nomark _)) (LW.or1 (LT.cmp (op_neU hr.units) ok_ne (LO.ofD (LD.bi (call_repr hr hgd hnd) ok_repr rfl b_repr (by decide +kernel) (LA.cons (LO.ofD (LD.ix (LO.s 3 (pv 3)) (LO.ofD LD.int) (fun _ _ => rfl))) LA.nil))) (LO.ofD (LD.bi (call_repr hr hgd hnd) ok_repr rfl b_repr (by decide +kernel) (LA.cons (LO.ofD LD.str) LA.nil))) (nomark _)))))) (LSs.one (LS.ret (LF.lst (LA.cons (LO.ofD LD.str) (LA.cons (LO.ofD (LD.neg (LO.ofD LD.int))) LA.nil))))) LSs.nil)
    (LSs.cons (LS.ite (LT.w (LW.or (LT.not (LT.val (LD.ofF (LF.cal c_law_is_whole_93bd hr hgd rfl (LA.cons (LO.ofD (LD.ix (LO.s 3 (pv 3)) (LO.ofD LD.int) (fun _ _ => rfl))) LA.nil))))) (LW.or1 (LT.not (LT.val (LD.ofF (LF.cal c_law_is_whole_93bd hr hgd rfl (LA.cons (LO.ofD (LD.ix (LO.s 3 (pv 3)) (LO.ofD LD.int) (fun _ _ => rfl))) LA.nil)))))))) (LSs.one (LS.ret (LF.lst (LA.cons (LO.ofD LD.str) (LA.cons (LO.ofD (LD.neg (LO.ofD LD.int))) LA.nil))))) LSs.nil)
    (LSs.cons (LS.asg (i := 6) sc.nd rfl (by first | exact .inl rfl | exact .inr rfl) (LF.ofD (LD.bin op_sub ok_sub (LO.ofD (LD.ofF (LF.cal c_law_worth_98b9 hr hgd rfl (LA.cons (LO.ofD (LD.var 0 (pv 0))) (LA.cons (LO.ofD (LD.ix (LO.s 3 (pv 3)) (LO.ofD LD.int) (fun _ _ => rfl))) (LA.cons (LO.ofD (LD.ix (LO.s 3 (pv 3)) (LO.ofD LD.int) (fun _ _ => rfl))) LA.nil)))))) (LO.ofD (LD.ofF (LF.cal c_law_worth_98b9 hr hgd rfl (LA.cons (LO.ofD (LD.var 1 (pv 1))) (LA.cons (LO.ofD (LD.ix (LO.s 3 (pv 3)) (LO.ofD LD.int) (fun _ _ => rfl))) (LA.cons (LO.ofD (LD.ix (LO.s 3 (pv 3)) (LO.ofD LD.int) (fun _ _ => rfl))) LA.nil)))))))))
    (LSs.one (LS.ret (LF.ofD (LD.ite (LT.cmp (op_eqU hr.units) ok_eq (LO.ofD (LD.bin op_mod ok_mod (LO.s 6 (pv 6)) (LO.s 2 (pv 2)))) (LO.ofD LD.int) (nomark _)) (LD.ofF (LF.lst (LA.cons (LO.ofD LD.str) (LA.cons (LO.ofD (LD.neg (LO.ofD LD.int))) LA.nil)))) LD.bl))))))))) hsp
abbrev st_is_integer : Stmt := top 2
theorem sc_is_integer : FnScope N_is_integer ["value"] (defScope st_is_integer) := ⟨rfl, rfl, rfl, by decide +kernel, rfl, by decide +kernel, by decide +kernel⟩
theorem cal_is_integer {P : Program} {w : World} {K : PySem.W.Frag} {mg : Str → Option Value} {base : Heap} {k : Nat} (hnd : base.NoDigits) (D : Dn K mg "is_integer" st_is_integer ["value"]) (b_isinstance : mg "isinstance" = none) (b_bool : mg "bool" = none) (b_int : mg "int" = none) {S : FSpec}
    (len : ∀ args Q, S.sp args Q → args.length = 1) (hsp : ∀ args Q, S.sp args Q → ir_is_integer (endsOf args Q) (rho0 N_is_integer args)) : Cal P w K mg base (k + 1) "is_integer" ["value"] S := by
  have sc := sc_is_integer
  exact def_cal D sc len (fun f cdv A outer s H E hr hgd =>
    (LSs.one (LS.ret (LF.ofD (LD.and (LD.isi "int" (by simp) rfl b_isinstance rfl b_int (by decide +kernel) (LO.s 0 (pv 0))) (LD.one (LD.not (LD.isi "bool" (by simp) rfl b_isinstance rfl b_bool (by decide +kernel) (LO.s 0 (pv 0)))))))))) hsp
abbrev st_is_triple : Stmt := top 22
theorem sc_is_triple : FnScope N_is_triple ["value", "most"] (defScope st_is_triple) := ⟨rfl, rfl, rfl, by decide +kernel, rfl, by decide +kernel, by decide +kernel⟩
theorem cal_is_triple {P : Program} {w : World} {K : PySem.W.Frag} {mg : Str → Option Value} {base : Heap} {k : Nat} (hnd : base.NoDigits) (D : Dn K mg "is_triple" st_is_triple ["value", "most"]) {S_is_integer : FSpec} (c_is_integer : Cal P w K mg base k "is_integer" ["value"] S_is_integer) (b_all : mg "all" = none) (b_len : mg "len" = none) (b_isinstance : mg "isinstance" = none) (b_tuple : mg "tuple" = none) {S : FSpec}
    (len : ∀ args Q, S.sp args Q → args.length = 2) (hsp : ∀ args Q, S.sp args Q → ir_is_triple S_is_integer (endsOf args Q) (rho0 N_is_triple args)) : Cal P w K mg base (k + 1) "is_triple" ["value", "most"] S := by
  have sc := sc_is_triple
  exact def_cal D sc len (fun f cdv A outer s H E hr hgd =>
    (LSs.cons (LS.ite (LT.w (LW.or (LT.not (LT.val (LD.isi "tuple" (by simp) rfl b_isinstance rfl b_tuple (by decide +kernel) (LO.s 0 (pv 0))))) (LW.or (LT.cmp (op_neU hr.units) ok_ne (LO.ofD (LD.bi call_lenU ok_len rfl b_len (by decide +kernel) (LA.cons (LO.s 0 (pv 0)) LA.nil))) (LO.ofD LD.int) (nomark _)) (LW.or1 (LT.not (LT.val (LD.bi (cr_all rfl) ok_all rfl b_all (by decide +kernel) (LA.cons (LO.ofD (LD.ofF (LF.lc (pt := (.nm 2)) (vs := [2]) rfl sc.nd (LI.own 0 (pv 0)) (blk_mk (N := N_is_triple) (own := [("one", 2)]) [] (by decide +kernel) trivial) rfl (by decide) (fun _ _ _ _ _ => (pg_name (i := 2) sc.nd rfl (by first | exact .inl rfl | exact .inr rfl))) (fun _ _ _ _ _ => LT.yes) (fun _ _ _ _ _ => (LD.ofF (LF.cal c_is_integer hr hgd rfl (LA.cons (LO.ofD (LD.var 2 (pv 2))) LA.nil))))))) LA.nil)))))))) (LSs.one (LS.ret (LF.ofD LD.bl))) LSs.nil)
    (LSs.one (LS.ret (LF.ofD (LD.and (LD.chain op_le op_le (LO.ofD LD.int) (LO.ofD (LD.ix (LO.s 0 (pv 0)) (LO.ofD LD.int) (fun _ _ => rfl))) (LO.s 1 (pv 1))) (LD.one (LD.chain op_le op_le (LO.ofD LD.int) (LO.ofD (LD.ix (LO.s 0 (pv 0)) (LO.ofD LD.int) (fun _ _ => rfl))) (LO.s 1 (pv 1)))))))))) hsp
abbrev st_check_rows_e : Stmt := top 23
theorem sc_check_rows_e : FnScope N_check_rows_e ["one", "other", "clock", "rows"] (defScope st_check_rows_e) := ⟨rfl, rfl, rfl, by decide +kernel, rfl, by decide +kernel, by decide +kernel⟩
theorem cal_check_rows_e {P : Program} {w : World} {K : PySem.W.Frag} {mg : Str → Option Value} {base : Heap} {k : Nat} (hnd : base.NoDigits) (D : Dn K mg "check_rows" st_check_rows_e ["one", "other", "clock", "rows"]) {S_is_triple : FSpec} (c_is_triple : Cal P w K mg base k "is_triple" ["value", "most"] S_is_triple) {S_step_of : FSpec} (c_step_of : Cal P w K mg base k "step_of" ["clock", "i", "j"] S_step_of) {S_gap : FSpec} (c_gap : Cal P w K mg base k "gap" ["one", "other"] S_gap) {C_NoPaper : Addr} (m_NoPaper : mg "NoPaper" = some (.ref C_NoPaper)) (x_NoPaper : ExMk P w K mg base 1 "NoPaper" C_NoPaper ["word", "number"]) (hkx : 2 ≤ k) (b_enumerate : mg "enumerate" = none) (b_tuple : mg "tuple" = none) (g_MOST_REACH : Glb K mg "MOST_REACH" (.int 16)) {S : XSpec}
    (len : ∀ args Q E, S.sp args Q E → args.length = 4) (hsp : ∀ args Q E, S.sp args Q E → ir_check_rows_e C_NoPaper S_is_triple S_step_of S_gap (endsX args E) (endsOf args Q) (rho0 N_check_rows_e args)) : CalE P w K mg base (k + 1) "check_rows" ["one", "other", "clock", "rows"] S := by
  have sc := sc_check_rows_e
  exact def_calE D sc len (fun f cdv A outer s H E u hr hgd tk =>
    (LSs.cons (LS.for (pt := (.tp [4, 5])) (passes_of rfl) rfl (LI.enumT rfl b_enumerate (LD.var 3 (pv 3))) (pg_tup rfl (pgs_cons (pg_name (i := 4) sc.nd rfl (by first | exact .inl rfl | exact .inr rfl)) (pgs_cons (pg_name (i := 5) sc.nd rfl (by first | exact .inl rfl | exact .inr rfl)) pgs_nil))) (LSs.one (LS.ite (LT.w (LW.or (LT.not (LT.val (LD.ofF (LF.cal c_is_triple hr hgd rfl (LA.cons (LO.ofD (LD.var 5 (pv 5))) (LA.cons (LO.ofD (LD.glb g_MOST_REACH rfl)) LA.nil)))))) (LW.or (LT.cmp (op_eqU hr.units) ok_eq (LO.ofD (LD.ix (LO.s 5 (pv 5)) (LO.ofD LD.int) (fun _ _ => rfl))) (LO.ofD LD.int) (nomark _)) (LW.or1 (LT.w (LW.and (LT.cmp op_gt (ok_cI _) (LO.s 4 (pv 4)) (LO.ofD LD.int) (nomark _)) (LW.and1 (LT.cmp (op_le2 hr.units) ok_le2 (LO.ofD (LD.sl (LO.s 5 (pv 5)) LP.none (LP.some (LO.ofD LD.int)))) (LO.ofD (LD.sl (LO.ofD (LD.ix (LO.s 3 (pv 3)) (LO.ofD (LD.bin op_sub ok_sub (LO.s 4 (pv 4)) (LO.ofD LD.int))) (fun _ _ => rfl))) LP.none (LP.some (LO.ofD LD.int)))) (nomark _))))))))) (LSs.one (LS.raise rfl tk x_NoPaper (hr.mono hkx) rfl (LA.cons (LO.ofD LD.str) (LA.cons (LO.ofD (LD.var 4 (pv 4))) LA.nil)))) LSs.nil)))
    (LSs.one (LS.ite (LT.cmp (op_neU hr.units) ok_ne (LO.ofD (LD.bt call_tuple_of ok_tuple rfl b_tuple (by decide +kernel) (LA.cons (LO.ofD (LD.ofF (LF.lc (pt := (.tp [6, 7, 8])) (vs := [6, 7, 8]) rfl sc.nd (LI.own 3 (pv 3)) (blk_mk (N := N_check_rows_e) (own := [("i", 6), ("j", 7), ("a", 8)]) ["clock"] (by decide +kernel) ⟨by first | exact .inl rfl | exact .inr rfl, trivial⟩) rfl (by decide) (fun _ _ _ _ _ => (pg_tup rfl (pgs_cons (pg_name (i := 6) sc.nd rfl (by first | exact .inl rfl | exact .inr rfl)) (pgs_cons (pg_name (i := 7) sc.nd rfl (by first | exact .inl rfl | exact .inr rfl)) (pgs_cons (pg_name (i := 8) sc.nd rfl (by first | exact .inl rfl | exact .inr rfl)) pgs_nil))))) (fun _ _ _ _ _ => LT.yes) (fun _ _ _ _ _ => (LD.tup (LA.cons (LO.ofD (LD.var 6 (pv 6))) (LA.cons (LO.ofD (LD.var 7 (pv 7))) (LA.cons (LO.ofD (LD.bin op_mulI ok_mul (LO.s 8 (pv 8)) (LO.ofD (LD.ofF (LF.cal c_step_of hr hgd rfl (LA.cons (LO.ofD (LD.var 2 (pv 2))) (LA.cons (LO.ofD (LD.var 6 (pv 6))) (LA.cons (LO.ofD (LD.var 7 (pv 7))) LA.nil)))))))) LA.nil)))))))) LA.nil))) (LO.ofD (LD.ofF (LF.cal c_gap hr hgd rfl (LA.cons (LO.ofD (LD.var 0 (pv 0))) (LA.cons (LO.ofD (LD.var 1 (pv 1))) LA.nil))))) (nomark _)) (LSs.one (LS.raise rfl tk x_NoPaper (hr.mono hkx) rfl (LA.cons (LO.ofD LD.str) (LA.cons (LO.ofD (LD.neg (LO.ofD LD.int))) LA.nil)))) LSs.nil)))) hsp
abbrev st_hour : Stmt := top 5
theorem sc_hour : FnScope N_hour ["formula", "clock", "x", "y"] (defScope st_hour) := ⟨rfl, rfl, rfl, by decide +kernel, rfl, by decide +kernel, by decide +kernel⟩
theorem cal_hour {P : Program} {w : World} {K : PySem.W.Frag} {mg : Str → Option Value} {base : Heap} {k : Nat} (hnd : base.NoDigits) (D : Dn K mg "hour" st_hour ["formula", "clock", "x", "y"]) {S_worth : FSpec} (c_worth : Cal P w K mg base k "worth" ["formula", "x", "y"] S_worth) {S : FSpec}
    (len : ∀ args Q, S.sp args Q → args.length = 4) (hsp : ∀ args Q, S.sp args Q → ir_hour S_worth (endsOf args Q) (rho0 N_hour args)) : Cal P w K mg base (k + 1) "hour" ["formula", "clock", "x", "y"] S := by
  have sc := sc_hour
  exact def_cal D sc len (fun f cdv A outer s H E hr hgd =>
    (LSs.one (LS.ret (LF.ofD (LD.bin op_mod ok_mod (LO.ofD (LD.ofF (LF.cal c_worth hr hgd rfl (LA.cons (LO.ofD (LD.var 0 (pv 0))) (LA.cons (LO.ofD (LD.var 2 (pv 2))) (LA.cons (LO.ofD (LD.var 3 (pv 3))) LA.nil)))))) (LO.s 1 (pv 1))))))) hsp
abbrev st_is_paper_e : Stmt := top 24
theorem sc_is_paper_e : FnScope N_is_paper_e ["one", "other", "clock", "value"] (defScope st_is_paper_e) := ⟨rfl, rfl, rfl, by decide +kernel, rfl, by decide +kernel, by decide +kernel⟩
theorem cal_is_paper_e {P : Program} {w : World} {K : PySem.W.Frag} {mg : Str → Option Value} {base : Heap} {k : Nat} (hnd : base.NoDigits) (D : Dn K mg "is_paper" st_is_paper_e ["one", "other", "clock", "value"]) {S_check_rows_e : XSpec} (c_check_rows_e : CalE P w K mg base k "check_rows" ["one", "other", "clock", "rows"] S_check_rows_e) {S_is_integer : FSpec} (c_is_integer : Cal P w K mg base k "is_integer" ["value"] S_is_integer) {S_hour : FSpec} (c_hour : Cal P w K mg base k "hour" ["formula", "clock", "x", "y"] S_hour) {C_NoPaper : Addr} (m_NoPaper : mg "NoPaper" = some (.ref C_NoPaper)) (x_NoPaper : ExMk P w K mg base 1 "NoPaper" C_NoPaper ["word", "number"]) (hkx : 2 ≤ k) (b_isinstance : mg "isinstance" = none) (b_str : mg "str" = none) (b_len : mg "len" = none) (b_tuple : mg "tuple" = none) {S : XSpec}
    (len : ∀ args Q E, S.sp args Q E → args.length = 4) (hsp : ∀ args Q E, S.sp args Q E → ir_is_paper_e C_NoPaper S_check_rows_e S_is_integer S_hour (endsX args E) (endsOf args Q) (rho0 N_is_paper_e args)) : CalE P w K mg base (k + 1) "is_paper" ["one", "other", "clock", "value"] S := by
  have sc := sc_is_paper_e
  exact def_calE D sc len (fun f cdv A outer s H E u hr hgd tk =>
    (LSs.cons (LS.ite (LT.w (LW.or (LT.not (LT.val (LD.isi "tuple" (by simp) rfl b_isinstance rfl b_tuple (by decide +kernel) (LO.s 3 (pv 3))))) (LW.or (LT.cmp (op_notInT hr.units) (ok_inT true) (LO.ofD (LD.bi call_lenU ok_len rfl b_len (by decide +kernel) (LA.cons (LO.s 3 (pv 3)) LA.nil))) (LO.ofD (LD.tup (LA.cons (LO.ofD LD.int) (LA.cons (LO.ofD LD.int) LA.nil)))) rfl) (LW.or1 (LT.not (LT.val (LD.isi "str" (by simp) rfl b_isinstance rfl b_str (by decide +kernel) (LO.ofD (LD.ix (LO.s 3 (pv 3)) (LO.ofD LD.int) (fun _ _ => rfl)))))))))) (LSs.one (LS.raise rfl tk x_NoPaper (hr.mono hkx) rfl (LA.cons (LO.ofD LD.str) (LA.cons (LO.ofD (LD.neg (LO.ofD LD.int))) LA.nil)))) LSs.nil)
    (LSs.cons (LS.ite (LT.w (LW.and (LT.cmp (op_eqU hr.units) ok_eq (LO.ofD (LD.ix (LO.s 3 (pv 3)) (LO.ofD LD.int) (fun _ _ => rfl))) (LO.ofD LD.str) (nomark _)) (LW.and (LT.cmp (op_eqU hr.units) ok_eq (LO.ofD (LD.bi call_lenU ok_len rfl b_len (by decide +kernel) (LA.cons (LO.s 3 (pv 3)) LA.nil))) (LO.ofD LD.int) (nomark _)) (LW.and1 (LT.val (LD.isi "tuple" (by simp) rfl b_isinstance rfl b_tuple (by decide +kernel) (LO.ofD (LD.ix (LO.s 3 (pv 3)) (LO.ofD LD.int) (fun _ _ => rfl))))))))) (LSs.cons (LS.drop (LD.ofF (LF.calE c_check_rows_e hr hgd tk rfl (LA.cons (LO.ofD (LD.var 0 (pv 0))) (LA.cons (LO.ofD (LD.var 1 (pv 1))) (LA.cons (LO.ofD (LD.var 2 (pv 2))) (LA.cons (LO.ofD (LD.ix (LO.s 3 (pv 3)) (LO.ofD LD.int) (fun _ _ => rfl))) LA.nil)))))))
    (LSs.one (LS.ret (LF.ofD LD.bl)))) LSs.nil)
    (LSs.cons (LS.ite (LT.w (LW.or (LT.cmp (op_neU hr.units) ok_ne (LO.ofD (LD.ix (LO.s 3 (pv 3)) (LO.ofD LD.int) (fun _ _ => rfl))) (LO.ofD LD.str) (nomark _)) (LW.or (LT.cmp (op_neU hr.units) ok_ne (LO.ofD (LD.bi call_lenU ok_len rfl b_len (by decide +kernel) (LA.cons (LO.s 3 (pv 3)) LA.nil))) (LO.ofD LD.int) (nomark _)) (LW.or (LT.not (LT.val (LD.ofF (LF.cal c_is_integer hr hgd rfl (LA.cons (LO.ofD (LD.ix (LO.s 3 (pv 3)) (LO.ofD LD.int) (fun _ _ => rfl))) LA.nil))))) (LW.or1 (LT.not (LT.val (LD.ofF (LF.cal c_is_integer hr hgd rfl (LA.cons (LO.ofD (LD.ix (LO.s 3 (pv 3)) (LO.ofD LD.int) (fun _ _ => rfl))) LA.nil)))))))))) (LSs.one (LS.raise rfl tk x_NoPaper (hr.mono hkx) rfl (LA.cons (LO.ofD LD.str) (LA.cons (LO.ofD (LD.neg (LO.ofD LD.int))) LA.nil)))) LSs.nil)
    (LSs.cons (LS.ite (LT.cmp (op_eqU hr.units) ok_eq (LO.ofD (LD.ofF (LF.cal c_hour hr hgd rfl (LA.cons (LO.ofD (LD.var 0 (pv 0))) (LA.cons (LO.ofD (LD.var 2 (pv 2))) (LA.cons (LO.ofD (LD.ix (LO.s 3 (pv 3)) (LO.ofD LD.int) (fun _ _ => rfl))) (LA.cons (LO.ofD (LD.ix (LO.s 3 (pv 3)) (LO.ofD LD.int) (fun _ _ => rfl))) LA.nil))))))) (LO.ofD (LD.ofF (LF.cal c_hour hr hgd rfl (LA.cons (LO.ofD (LD.var 1 (pv 1))) (LA.cons (LO.ofD (LD.var 2 (pv 2))) (LA.cons (LO.ofD (LD.ix (LO.s 3 (pv 3)) (LO.ofD LD.int) (fun _ _ => rfl))) (LA.cons (LO.ofD (LD.ix (LO.s 3 (pv 3)) (LO.ofD LD.int) (fun _ _ => rfl))) LA.nil))))))) (nomark _)) (LSs.one (LS.raise rfl tk x_NoPaper (hr.mono hkx) rfl (LA.cons (LO.ofD LD.str) (LA.cons (LO.ofD (LD.neg (LO.ofD LD.int))) LA.nil)))) LSs.nil)
    (LSs.one (LS.ret (LF.ofD LD.bl)))))))) hsp
abbrev st_law_told_6c3d_e : Stmt := top 43
theorem sc_law_told_6c3d_e : FnScope N_law_told_6c3d_e ["one", "other", "clock", "value"] (defScope st_law_told_6c3d_e) := ⟨rfl, rfl, rfl, by decide +kernel, rfl, by decide +kernel, by decide +kernel⟩
theorem cal_law_told_6c3d_e {P : Program} {w : World} {K : PySem.W.Frag} {mg : Str → Option Value} {base : Heap} {k : Nat} (hnd : base.NoDigits) (D : Dn K mg "_law_told" st_law_told_6c3d_e ["one", "other", "clock", "value"]) {S_is_paper_e : XSpec} (c_is_paper_e : CalE P w K mg base k "is_paper" ["one", "other", "clock", "value"] S_is_paper_e) {C_HourError : Addr} (m_HourError : mg "HourError" = some (.ref C_HourError)) {C_NoPaper : Addr} (m_NoPaper : mg "NoPaper" = some (.ref C_NoPaper)) (em_NoPaper_NoPaper : PySem.W.exmOne K (.ref C_NoPaper) (.ref C_NoPaper) = some true) (xe_NoPaper : ExcC K C_NoPaper) (ki_NoPaper_HourError : PySem.W.kitOne K (.ref C_NoPaper) (.ref C_HourError) = some true) (xf_NoPaper : XfC K C_NoPaper) (nx_NoPaper_number : PySem.W.findIn K (.ref C_NoPaper) "number" = some none) (nx_NoPaper_word : PySem.W.findIn K (.ref C_NoPaper) "word" = some none) (b_isinstance : mg "isinstance" = none) {S : FSpec}
    (len : ∀ args Q, S.sp args Q → args.length = 4) (hsp : ∀ args Q, S.sp args Q → ir_law_told_6c3d_e C_HourError C_NoPaper S_is_paper_e (endsOf args Q) (rho0 N_law_told_6c3d_e args)) : Cal P w K mg base (k + 1) "_law_told" ["one", "other", "clock", "value"] S := by
  have sc := sc_law_told_6c3d_e
  exact def_cal D sc len (fun f cdv A outer s H E hr hgd =>
    (LSs.one (LS.try_ rfl rfl sc.nd (fun u pn xe tk hp => (LSs.one (LS.ret (LF.calE c_is_paper_e hr hgd tk rfl (LA.cons (LO.ofD (LD.var 0 (pv 0))) (LA.cons (LO.ofD (LD.var 1 (pv 1))) (LA.cons (LO.ofD (LD.var 2 (pv 2))) (LA.cons (LO.ofD (LD.var 3 (pv 3))) LA.nil)))))))) (.named ⟨rfl, by decide, .inl m_NoPaper⟩ (by intro p hp; simp only [List.mem_cons, List.not_mem_nil, or_false] at hp; rcases hp with rfl <;> first | exact em_NoPaper_NoPaper) rfl rfl (fun a oe C d pn hz hf => (LSs.one (LS.ret (LF.ofD (LD.ite (LT.val (LD.xi xe_NoPaper ki_NoPaper_HourError cv_ref hz hf rfl b_isinstance (pv 4) (pe_gcls rfl m_HourError))) (LD.ofF (LF.lst (LA.cons (LO.ofD (LD.xf xf_NoPaper nx_NoPaper_word hz hf (pv 4))) (LA.cons (LO.ofD (LD.xf xf_NoPaper nx_NoPaper_number hz hf (pv 4))) LA.nil)))) (LD.ofF (LF.lst (LA.cons (LO.ofD LD.str) LA.nil)))))))) .nil)))) hsp
abbrev st_law_bent_entries_5bbe : Stmt := top 44
theorem sc_law_bent_entries_5bbe : FnScope N_law_bent_entries_5bbe ["deck", "entries"] (defScope st_law_bent_entries_5bbe) := ⟨rfl, rfl, rfl, by decide +kernel, rfl, by decide +kernel, by decide +kernel⟩
theorem cal_law_bent_entries_5bbe {P : Program} {w : World} {K : PySem.W.Frag} {mg : Str → Option Value} {base : Heap} {k : Nat} (hnd : base.NoDigits) (D : Dn K mg "_law_bent_entries" st_law_bent_entries_5bbe ["deck", "entries"]) {S_law_draw_a51a : FSpec} (c_law_draw_a51a : Cal P w K mg base k "_law_draw" ["deck", "many"] S_law_draw_a51a) {S_law_is_entry_6be6 : FSpec} (c_law_is_entry_6be6 : Cal P w K mg base k "_law_is_entry" ["value"] S_law_is_entry_6be6) {S_law_one_90da : FSpec} (c_law_one_90da : Cal P w K mg base k "_law_one" ["deck", "items"] S_law_one_90da) (b_len : mg "len" = none) (b_int : mg "int" = none) {S : FSpec}
    (len : ∀ args Q, S.sp args Q → args.length = 2) (hsp : ∀ args Q, S.sp args Q → ir_law_bent_entries_5bbe S_law_draw_a51a S_law_is_entry_6be6 S_law_one_90da (endsOf args Q) (rho0 N_law_bent_entries_5bbe args)) : Cal P w K mg base (k + 1) "_law_bent_entries" ["deck", "entries"] S := by
  have sc := sc_law_bent_entries_5bbe
  exact def_cal D sc len (fun f cdv A outer s H E hr hgd =>
    (LSs.cons (LS.asg (i := 2) sc.nd rfl (by first | exact .inl rfl | exact .inr rfl) (LF.cal c_law_draw_a51a hr hgd rfl (LA.cons (LO.s 0 (pv 0)) (LA.cons (LO.ofD (LD.bin op_addD ok_add (LO.ofD (LD.bi call_lenU ok_len rfl b_len (by decide +kernel) (LA.cons (LO.s 1 (pv 1)) LA.nil))) (LO.ofD LD.int))) LA.nil))))
    (LSs.cons (LS.unp (pt := (.tp [3, 4, 5])) (pg_tup rfl (pgs_cons (pg_name (i := 3) sc.nd rfl (by first | exact .inl rfl | exact .inr rfl)) (pgs_cons (pg_name (i := 4) sc.nd rfl (by first | exact .inl rfl | exact .inr rfl)) (pgs_cons (pg_name (i := 5) sc.nd rfl (by first | exact .inl rfl | exact .inr rfl)) pgs_nil)))) (LD.tup (LA.cons (LO.ofD LD.int) (LA.cons (LO.ofD LD.int) (LA.cons (LO.ofD LD.int) LA.nil)))))
    (LSs.cons (LS.ite (LT.w (LW.and (LT.cmp op_lt (ok_cI _) (LO.s 2 (pv 2)) (LO.ofD (LD.bi call_lenU ok_len rfl b_len (by decide +kernel) (LA.cons (LO.s 1 (pv 1)) LA.nil))) (nomark _)) (LW.and1 (LT.val (LD.ofF (LF.cal c_law_is_entry_6be6 hr hgd rfl (LA.cons (LO.ofD (LD.ix (LO.s 1 (pv 1)) (LO.s 2 (pv 2)) (fun _ _ => rfl))) LA.nil))))))) (LSs.one (LS.unp (pt := (.tp [3, 4, 5])) (pg_tup rfl (pgs_cons (pg_name (i := 3) sc.nd rfl (by first | exact .inl rfl | exact .inr rfl)) (pgs_cons (pg_name (i := 4) sc.nd rfl (by first | exact .inl rfl | exact .inr rfl)) (pgs_cons (pg_name (i := 5) sc.nd rfl (by first | exact .inl rfl | exact .inr rfl)) pgs_nil)))) (LD.ix (LO.s 1 (pv 1)) (LO.s 2 (pv 2)) (fun _ _ => rfl)))) LSs.nil)
    (LSs.cons (LS.asg (i := 6) sc.nd rfl (by first | exact .inl rfl | exact .inr rfl) (LF.lst (LA.cons (LO.ofD (LD.tup (LA.cons (LO.ofD (LD.var 3 (pv 3))) (LA.cons (LO.ofD (LD.var 4 (pv 4))) (LA.cons (LO.ofD (LD.bin op_addD ok_add (LO.s 5 (pv 5)) (LO.ofD LD.int))) LA.nil))))) (LA.cons (LO.ofD (LD.tup (LA.cons (LO.ofD (LD.var 3 (pv 3))) (LA.cons (LO.ofD (LD.var 4 (pv 4))) (LA.cons (LO.ofD (LD.neg (LO.s 5 (pv 5)))) LA.nil))))) (LA.cons (LO.ofD (LD.tup (LA.cons (LO.ofD (LD.var 3 (pv 3))) (LA.cons (LO.ofD (LD.var 4 (pv 4))) (LA.cons (LO.ofD LD.int) LA.nil))))) (LA.cons (LO.ofD (LD.tup (LA.cons (LO.ofD (LD.bin op_addD ok_add (LO.s 3 (pv 3)) (LO.ofD LD.int))) (LA.cons (LO.ofD (LD.var 4 (pv 4))) (LA.cons (LO.ofD (LD.var 5 (pv 5))) LA.nil))))) (LA.cons (LO.ofD (LD.tup (LA.cons (LO.ofD (LD.var 3 (pv 3))) (LA.cons (LO.ofD (LD.bin op_addD ok_add (LO.s 4 (pv 4)) (LO.ofD LD.int))) (LA.cons (LO.ofD (LD.var 5 (pv 5))) LA.nil))))) (LA.cons (LO.ofD (LD.tup (LA.cons (LO.ofD (LD.var 3 (pv 3))) (LA.cons (LO.ofD (LD.var 4 (pv 4))) LA.nil)))) (LA.cons (LO.ofD (LD.tup (LA.cons (LO.ofD (LD.var 3 (pv 3))) (LA.cons (LO.ofD (LD.var 4 (pv 4))) (LA.cons (LO.ofD (LD.var 5 (pv 5))) (LA.cons (LO.ofD LD.int) LA.nil)))))) (LA.cons (LO.ofD (LD.ofF (LF.lst (LA.cons (LO.ofD (LD.var 3 (pv 3))) (LA.cons (LO.ofD (LD.var 4 (pv 4))) (LA.cons (LO.ofD (LD.var 5 (pv 5))) LA.nil)))))) (LA.cons (LO.ofD LD.non) LA.nil)))))))))))
    (LSs.cons (LS.asg (i := 6) sc.nd rfl (by first | exact .inl rfl | exact .inr rfl) (LF.ofD (LD.bin op_addD ok_add (LO.s 6 (pv 6)) (LO.ofD (LD.ofF (LF.lst (LA.cons (LO.ofD (LD.tup (LA.cons (LO.ofD LD.int) (LA.cons (LO.ofD LD.int) (LA.cons (LO.ofD (LD.var 5 (pv 5))) LA.nil))))) (LA.cons (LO.ofD (LD.tup (LA.cons (LO.ofD LD.int) (LA.cons (LO.ofD LD.int) (LA.cons (LO.ofD LD.int) LA.nil))))) (LA.cons (LO.ofD (LD.tup (LA.cons (LO.ofD (LD.neg (LO.ofD LD.int))) (LA.cons (LO.ofD (LD.var 4 (pv 4))) (LA.cons (LO.ofD (LD.var 5 (pv 5))) LA.nil))))) (LA.cons (LO.ofD (LD.tup (LA.cons (LO.ofD LD.int) (LA.cons (LO.ofD LD.int) (LA.cons (LO.ofD LD.int) LA.nil))))) (LA.cons (LO.ofD (LD.tup (LA.cons (LO.ofD (LD.var 3 (pv 3))) (LA.cons (LO.ofD LD.bl) (LA.cons (LO.ofD (LD.var 5 (pv 5))) LA.nil))))) (LA.cons (LO.ofD (LD.tup (LA.cons (LO.ofD (LD.var 3 (pv 3))) (LA.cons (LO.ofD (LD.var 4 (pv 4))) (LA.cons (LO.ofD LD.str) LA.nil))))) (LA.cons (LO.ofD (LD.tup (LA.cons (LO.ofD (LD.var 3 (pv 3))) (LA.cons (LO.ofD (LD.var 4 (pv 4))) (LA.cons (LO.ofD (LD.var 5 (pv 5))) LA.nil))))) LA.nil)))))))))))))
    (LSs.cons (LS.asg (i := 6) sc.nd rfl (by first | exact .inl rfl | exact .inr rfl) (LF.ofD (LD.bin op_addD ok_add (LO.s 6 (pv 6)) (LO.ofD (LD.ofF (LF.lst (LA.cons (LO.ofD (LD.tup (LA.cons (LO.ofD (LD.var 3 (pv 3))) (LA.cons (LO.ofD (LD.var 4 (pv 4))) (LA.cons (LO.ofD LD.bl) LA.nil))))) (LA.cons (LO.ofD (LD.tup (LA.cons (LO.ofD LD.bl) (LA.cons (LO.ofD (LD.var 4 (pv 4))) (LA.cons (LO.ofD (LD.var 5 (pv 5))) LA.nil))))) (LA.cons (LO.ofD (LD.tup (LA.cons (LO.ofD LD.bl) (LA.cons (LO.ofD (LD.var 4 (pv 4))) (LA.cons (LO.ofD (LD.var 5 (pv 5))) LA.nil))))) (LA.cons (LO.ofD (LD.tup (LA.cons (LO.ofD (LD.var 3 (pv 3))) (LA.cons (LO.ofD LD.bl) (LA.cons (LO.ofD (LD.var 5 (pv 5))) LA.nil))))) (LA.cons (LO.ofD (LD.tup (LA.cons (LO.ofD LD.bl) (LA.cons (LO.ofD LD.int) (LA.cons (LO.ofD LD.int) LA.nil))))) (LA.cons (LO.ofD (LD.tup (LA.cons (LO.ofD LD.non) (LA.cons (LO.ofD (LD.var 4 (pv 4))) (LA.cons (LO.ofD (LD.var 5 (pv 5))) LA.nil))))) (LA.cons (LO.ofD (LD.tup (LA.cons (LO.ofD (LD.var 3 (pv 3))) (LA.cons (LO.ofD LD.str) (LA.cons (LO.ofD (LD.var 5 (pv 5))) LA.nil))))) LA.nil)))))))))))))
    (LSs.cons (LS.asg (i := 7) sc.nd rfl (by first | exact .inl rfl | exact .inr rfl) (LF.cal c_law_draw_a51a hr hgd rfl (LA.cons (LO.s 0 (pv 0)) (LA.cons (LO.ofD LD.int) LA.nil))))
    (LSs.cons (LS.ite (LT.cmp (op_eqU hr.units) ok_eq (LO.s 7 (pv 7)) (LO.ofD LD.int) (nomark _)) (LSs.one (LS.ret (LF.ofD (LD.bin op_addT ok_addT (LO.ofD (LD.sl (LO.s 1 (pv 1)) LP.none (LP.some (LO.s 2 (pv 2))))) (LO.ofD (LD.sl (LO.s 1 (pv 1)) (LP.some (LO.ofD (LD.bin op_addD ok_add (LO.s 2 (pv 2)) (LO.ofD LD.int)))) LP.none)))))) LSs.nil)
    (LSs.cons (LS.ite (LT.cmp (op_eqU hr.units) ok_eq (LO.s 7 (pv 7)) (LO.ofD LD.int) (nomark _)) (LSs.one (LS.ret (LF.ofD (LD.bin op_addT ok_addT (LO.ofD (LD.bin op_addT ok_addT (LO.ofD (LD.sl (LO.s 1 (pv 1)) LP.none (LP.some (LO.s 2 (pv 2))))) (LO.ofD (LD.revT (LO.ofD (LD.sl (LO.s 1 (pv 1)) (LP.some (LO.s 2 (pv 2))) (LP.some (LO.ofD (LD.bin op_addD ok_add (LO.s 2 (pv 2)) (LO.ofD LD.int)))))))))) (LO.ofD (LD.sl (LO.s 1 (pv 1)) (LP.some (LO.ofD (LD.bin op_addD ok_add (LO.s 2 (pv 2)) (LO.ofD LD.int)))) LP.none)))))) LSs.nil)
    (LSs.one (LS.ret (LF.ofD (LD.bin op_addT ok_addT (LO.ofD (LD.bin op_addT ok_addT (LO.ofD (LD.sl (LO.s 1 (pv 1)) LP.none (LP.some (LO.s 2 (pv 2))))) (LO.ofD (LD.tup (LA.cons (LO.ofD (LD.ofF (LF.cal c_law_one_90da hr hgd rfl (LA.cons (LO.s 0 (pv 0)) (LA.cons (LO.ofD (LD.var 6 (pv 6))) LA.nil))))) LA.nil))))) (LO.ofD (LD.sl (LO.s 1 (pv 1)) (LP.some (LO.ofD (LD.bin op_addD ok_add (LO.s 2 (pv 2)) (LO.ofD (LD.bt call_int1 ok_int rfl b_int (by decide +kernel) (LA.cons (LO.ofD (LD.cmp (op_eqU hr.units) ok_eq (LO.s 7 (pv 7)) (LO.ofD LD.int) (nomark _))) LA.nil)))))) LP.none)))))))))))))))) hsp
abbrev st_law_bent_aa32 : Stmt := top 45
theorem sc_law_bent_aa32 : FnScope N_law_bent_aa32 ["deck", "value"] (defScope st_law_bent_aa32) := ⟨rfl, rfl, rfl, by decide +kernel, rfl, by decide +kernel, by decide +kernel⟩
theorem cal_law_bent_aa32 {P : Program} {w : World} {K : PySem.W.Frag} {mg : Str → Option Value} {base : Heap} {k : Nat} (hnd : base.NoDigits) (D : Dn K mg "_law_bent" st_law_bent_aa32 ["deck", "value"]) {S_law_draw_a51a : FSpec} (c_law_draw_a51a : Cal P w K mg base k "_law_draw" ["deck", "many"] S_law_draw_a51a) {S_law_bent_entries_5bbe : FSpec} (c_law_bent_entries_5bbe : Cal P w K mg base k "_law_bent_entries" ["deck", "entries"] S_law_bent_entries_5bbe) {S_law_one_90da : FSpec} (c_law_one_90da : Cal P w K mg base k "_law_one" ["deck", "items"] S_law_one_90da) (b_isinstance : mg "isinstance" = none) (b_tuple : mg "tuple" = none) (b_int : mg "int" = none) (b_list : mg "list" = none) {S : FSpec}
    (len : ∀ args Q, S.sp args Q → args.length = 2) (hsp : ∀ args Q, S.sp args Q → ir_law_bent_aa32 S_law_draw_a51a S_law_bent_entries_5bbe S_law_one_90da (endsOf args Q) (rho0 N_law_bent_aa32 args)) : Cal P w K mg base (k + 1) "_law_bent" ["deck", "value"] S := by
  have sc := sc_law_bent_aa32
  exact def_cal D sc len (fun f cdv A outer s H E hr hgd =>
    (LSs.cons (LS.ite (LT.w (LW.and (LT.cmp (op_eqU hr.units) ok_eq (LO.ofD (LD.ix (LO.s 1 (pv 1)) (LO.ofD LD.int) (fun _ _ => rfl))) (LO.ofD LD.str) (nomark _)) (LW.and (LT.val (LD.isi "tuple" (by simp) rfl b_isinstance rfl b_tuple (by decide +kernel) (LO.ofD (LD.ix (LO.s 1 (pv 1)) (LO.ofD LD.int) (fun _ _ => rfl))))) (LW.and1 (LT.cmp op_gt (ok_cI _) (LO.ofD (LD.ofF (LF.cal c_law_draw_a51a hr hgd rfl (LA.cons (LO.s 0 (pv 0)) (LA.cons (LO.ofD LD.int) LA.nil))))) (LO.ofD LD.int) (nomark _)))))) (LSs.one (LS.ret (LF.ofD (LD.tup (LA.cons (LO.ofD LD.str) (LA.cons (LO.ofD (LD.ofF (LF.cal c_law_bent_entries_5bbe hr hgd rfl (LA.cons (LO.s 0 (pv 0)) (LA.cons (LO.ofD (LD.ix (LO.s 1 (pv 1)) (LO.ofD LD.int) (fun _ _ => rfl))) LA.nil))))) LA.nil)))))) LSs.nil)
    (LSs.cons (LS.par (i := 2) (j := 3) rfl sc.nd rfl rfl (by decide) rfl rfl (LF.ofD (LD.bin op_sub ok_sub (LO.ofD (LD.ofF (LF.cal c_law_draw_a51a hr hgd rfl (LA.cons (LO.s 0 (pv 0)) (LA.cons (LO.ofD LD.int) LA.nil))))) (LO.ofD LD.int))) (LF.ofD (LD.bin op_sub ok_sub (LO.ofD (LD.ofF (LF.cal c_law_draw_a51a hr hgd rfl (LA.cons (LO.s 0 (pv 0)) (LA.cons (LO.ofD LD.int) LA.nil))))) (LO.ofD LD.int))) rfl)
    (LSs.cons (LS.asg (i := 4) sc.nd rfl (by first | exact .inl rfl | exact .inr rfl) (LF.lst (LA.cons (LO.ofD (LD.tup (LA.cons (LO.ofD LD.str) (LA.cons (LO.ofD (LD.var 2 (pv 2))) (LA.cons (LO.ofD (LD.var 3 (pv 3))) LA.nil))))) (LA.cons (LO.ofD (LD.tup (LA.cons (LO.ofD LD.str) (LA.cons (LO.ofD (LD.bin op_addD ok_add (LO.ofD (LD.bt call_int_str ok_intS rfl b_int (by decide +kernel) (LA.cons (LO.ofD (LD.bin op_addD ok_add (LO.ofD LD.str) (LO.ofD (LD.bin op_repS ok_repS (LO.ofD LD.str) (LO.ofD LD.int))))) LA.nil))) (LO.s 2 (pv 2)))) (LA.cons (LO.ofD (LD.var 3 (pv 3))) LA.nil))))) (LA.cons (LO.ofD (LD.tup (LA.cons (LO.ofD LD.str) (LA.cons (LO.ofD (LD.var 2 (pv 2))) LA.nil)))) (LA.cons (LO.ofD (LD.tup (LA.cons (LO.ofD LD.str) (LA.cons (LO.ofD (LD.var 2 (pv 2))) (LA.cons (LO.ofD (LD.var 3 (pv 3))) (LA.cons (LO.ofD LD.int) LA.nil)))))) LA.nil))))))
    (LSs.cons (LS.asg (i := 4) sc.nd rfl (by first | exact .inl rfl | exact .inr rfl) (LF.ofD (LD.bin op_addD ok_add (LO.s 4 (pv 4)) (LO.ofD (LD.ofF (LF.lst (LA.cons (LO.ofD (LD.tup (LA.cons (LO.ofD LD.str) (LA.cons (LO.ofD LD.bl) (LA.cons (LO.ofD (LD.var 3 (pv 3))) LA.nil))))) (LA.cons (LO.ofD (LD.tup (LA.cons (LO.ofD LD.str) (LA.cons (LO.ofD (LD.tup LA.nil)) LA.nil)))) LA.nil))))))))
    (LSs.cons (LS.asg (i := 4) sc.nd rfl (by first | exact .inl rfl | exact .inr rfl) (LF.ofD (LD.bin op_addD ok_add (LO.s 4 (pv 4)) (LO.ofD (LD.ofF (LF.lst (LA.cons (LO.ofD (LD.tup (LA.cons (LO.ofD LD.str) (LA.cons (LO.ofD (LD.ofF (LF.lst LA.nil))) (LA.cons (LO.ofD (LD.tup LA.nil)) LA.nil))))) (LA.cons (LO.ofD (LD.tup (LA.cons (LO.ofD LD.str) (LA.cons (LO.ofD (LD.ofF (LF.lst LA.nil))) LA.nil)))) (LA.cons (LO.ofD (LD.tup (LA.cons (LO.ofD LD.str) (LA.cons (LO.ofD (LD.tup LA.nil)) LA.nil)))) (LA.cons (LO.ofD (LD.tup (LA.cons (LO.ofD LD.str) (LA.cons (LO.ofD (LD.tup LA.nil)) LA.nil)))) (LA.cons (LO.ofD (LD.ofF (LF.list rfl b_list (LA.cons (LO.s 1 (pv 1)) LA.nil)))) (LA.cons (LO.ofD (LD.tup (LA.cons (LO.ofD LD.str) (LA.cons (LO.ofD (LD.tup (LA.cons (LO.ofD (LD.tup (LA.cons (LO.ofD LD.int) (LA.cons (LO.ofD LD.int) (LA.cons (LO.ofD (LD.var 2 (pv 2))) LA.nil))))) LA.nil))) LA.nil)))) LA.nil))))))))))))
    (LSs.one (LS.ret (LF.cal c_law_one_90da hr hgd rfl (LA.cons (LO.s 0 (pv 0)) (LA.cons (LO.ofD (LD.var 4 (pv 4))) LA.nil))))))))))) hsp
abbrev st_law : Stmt := top 46
theorem sc_law : FnScope N_law ["script"] (defScope st_law) := ⟨rfl, rfl, rfl, by decide +kernel, rfl, by decide +kernel, by decide +kernel⟩
theorem fn_law {P : Program} {w : World} {K : PySem.W.Frag} {mg : Str → Option Value} {base : Heap} {k : Nat} (hnd : base.NoDigits) {fa : Addr} {fd : FuncData} (Fn : Fun K "law" "law" st_law fa fd) {S_law_deck_91e6 : FSpec} (c_law_deck_91e6 : Cal P w K mg base k "_law_deck" ["script"] S_law_deck_91e6) {S_law_clock_4333 : FSpec} (c_law_clock_4333 : Cal P w K mg base k "_law_clock" ["deck"] S_law_clock_4333) {S_law_two_14d8 : FSpec} (c_law_two_14d8 : Cal P w K mg base k "_law_two" ["deck", "clock"] S_law_two_14d8) {S_paper : FSpec} (c_paper : Cal P w K mg base k "paper" ["one", "other", "clock"] S_paper) {S_law_one_90da : FSpec} (c_law_one_90da : Cal P w K mg base k "_law_one" ["deck", "items"] S_law_one_90da) {S_law_due_4155 : FSpec} (c_law_due_4155 : Cal P w K mg base k "_law_due" ["one", "other", "clock", "value"] S_law_due_4155) {S_law_told_6c3d_e : FSpec} (c_law_told_6c3d_e : Cal P w K mg base k "_law_told" ["one", "other", "clock", "value"] S_law_told_6c3d_e) {S_law_bent_aa32 : FSpec} (c_law_bent_aa32 : Cal P w K mg base k "_law_bent" ["deck", "value"] S_law_bent_aa32) (b_range : mg "range" = none) (b_repr : mg "repr" = none) (b_len : mg "len" = none) (b_isinstance : mg "isinstance" = none) (b_tuple : mg "tuple" = none) {S : FSpec}
    (len : ∀ args Q, S.sp args Q → args.length = 1) (hsp : ∀ args Q, S.sp args Q → ir_law S_law_deck_91e6 S_law_clock_4333 S_law_two_14d8 S_paper S_law_one_90da S_law_due_4155 S_law_told_6c3d_e S_law_bent_aa32 (endsOf args Q) (rho0 N_law args)) : FnG P w K mg base CX0 (k + 1) fa fd ["script"] (liftC K S) := by
  have sc := sc_law
  exact def_ok Fn sc len (fun cdv A outer s H E hr hgd =>
    (LSs.cons (LS.asg (i := 1) sc.nd rfl (by first | exact .inl rfl | exact .inr rfl) (LF.cal c_law_deck_91e6 hr hgd rfl (LA.cons (LO.s 0 (pv 0)) LA.nil)))
    (LSs.cons (LS.for (pt := (.nm 2)) PassesOwn.never rfl (LI.range1 rfl b_range (LA.cons (LO.ofD LD.int) LA.nil)) (pg_name (i := 2) sc.nd rfl (by first | exact .inl rfl | exact .inr rfl)) (LSs.cons (LS.asg (i := 3) sc.nd rfl (by first | exact .inl rfl | exact .inr rfl) (LF.cal c_law_clock_4333 hr hgd rfl (LA.cons (LO.s 1 (pv 1)) LA.nil)))
    (LSs.cons (LS.unp (pt := (.tp [4, 5])) (pg_tup rfl (pgs_cons (pg_name (i := 4) sc.nd rfl (by first | exact .inl rfl | exact .inr rfl)) (pgs_cons (pg_name (i := 5) sc.nd rfl (by first | exact .inl rfl | exact .inr rfl)) pgs_nil))) (LD.ofF (LF.cal c_law_two_14d8 hr hgd rfl (LA.cons (LO.s 1 (pv 1)) (LA.cons (LO.ofD (LD.var 3 (pv 3))) LA.nil)))))
    (LSs.cons (LS.asg (i := 6) sc.nd rfl (by first | exact .inl rfl | exact .inr rfl) (LF.cal c_paper hr hgd rfl (LA.cons (LO.ofD (LD.var 4 (pv 4))) (LA.cons (LO.ofD (LD.var 5 (pv 5))) (LA.cons (LO.ofD (LD.ofF (LF.cal c_law_one_90da hr hgd rfl (LA.cons (LO.s 1 (pv 1)) (LA.cons (LO.ofD (LD.ofF (LF.lst (LA.cons (LO.ofD (LD.var 3 (pv 3))) (LA.cons (LO.ofD (LD.var 3 (pv 3))) (LA.cons (LO.ofD (LD.ofF (LF.cal c_law_clock_4333 hr hgd rfl (LA.cons (LO.s 1 (pv 1)) LA.nil)))) LA.nil)))))) LA.nil))))) LA.nil)))))
    (LSs.one (LS.for (pt := (.nm 7)) PassesOwn.never rfl (LI.range1 rfl b_range (LA.cons (LO.ofD LD.int) LA.nil)) (pg_name (i := 7) sc.nd rfl (by first | exact .inl rfl | exact .inr rfl)) (LSs.cons (LS.par (i := 8) (j := 9) rfl sc.nd rfl rfl (by decide) rfl rfl (LF.cal c_law_due_4155 hr hgd rfl (LA.cons (LO.ofD (LD.var 4 (pv 4))) (LA.cons (LO.ofD (LD.var 5 (pv 5))) (LA.cons (LO.ofD (LD.var 3 (pv 3))) (LA.cons (LO.ofD (LD.var 6 (pv 6))) LA.nil))))) (LF.ofD (LD.bi (call_repr hr hgd hnd) ok_repr rfl b_repr (by decide +kernel) (LA.cons (LO.s 6 (pv 6)) LA.nil))) rfl)
    (LSs.cons (LS.ite (LT.w (LW.or (LT.cmp (op_neU hr.units) ok_ne (LO.ofD (LD.bi (call_repr hr hgd hnd) ok_repr rfl b_repr (by decide +kernel) (LA.cons (LO.ofD (LD.ofF (LF.cal c_law_told_6c3d_e hr hgd rfl (LA.cons (LO.ofD (LD.var 4 (pv 4))) (LA.cons (LO.ofD (LD.var 5 (pv 5))) (LA.cons (LO.ofD (LD.var 3 (pv 3))) (LA.cons (LO.ofD (LD.var 6 (pv 6))) LA.nil))))))) LA.nil))) (LO.ofD (LD.bi (call_repr hr hgd hnd) ok_repr rfl b_repr (by decide +kernel) (LA.cons (LO.s 8 (pv 8)) LA.nil))) (nomark _)) (LW.or1 (LT.cmp (op_neU hr.units) ok_ne (LO.ofD (LD.bi (call_repr hr hgd hnd) ok_repr rfl b_repr (by decide +kernel) (LA.cons (LO.s 6 (pv 6)) LA.nil))) (LO.s 9 (pv 9)) (nomark _))))) (LSs.one (LS.ret (LF.ofD LD.bl))) LSs.nil)
    (LSs.one (LS.ite (LT.w (LW.and (LT.val (LD.isi "tuple" (by simp) rfl b_isinstance rfl b_tuple (by decide +kernel) (LO.s 6 (pv 6)))) (LW.and1 (LT.cmp op_gt (ok_cI _) (LO.ofD (LD.bi call_lenU ok_len rfl b_len (by decide +kernel) (LA.cons (LO.s 6 (pv 6)) LA.nil))) (LO.ofD LD.int) (nomark _))))) (LSs.one (LS.asg (i := 6) sc.nd rfl (by first | exact .inl rfl | exact .inr rfl) (LF.cal c_law_bent_aa32 hr hgd rfl (LA.cons (LO.s 1 (pv 1)) (LA.cons (LO.ofD (LD.var 6 (pv 6))) LA.nil))))) LSs.nil))))))))))
    (LSs.one (LS.ret (LF.ofD LD.bl)))))) hsp
theorem all_mk {l : PySem.W.OpenLaw} {w : World} {K : PySem.W.Frag} {h : Heap} {mg : Str → Option Value} {fa f0 f1 f2 f3 f4 f5 f6 f7 f8 f9 f10 f11 f12 f13 f14 f15 f16 f17 f18 f19 f20 f21 f22 f23 f24 f25 f26 f27 f28 f29 f30 f31 f32 f33 f34 f35 f36 : Addr} (X : K.In h) (G : h.Ns mainGlobals mg) (hfa : mg "law" = some (.ref fa))
    {od0 an0 od1 an1 od2 an2 od3 an3 od4 an4 od5 an5 od6 an6 od7 an7 od8 an8 od9 an9 od10 an10 od11 an11 od12 an12 od13 an13 od14 an14 od15 an15 od16 an16 od17 an17 od18 an18 od19 an19 od20 an20 od21 an21 od22 an22 od23 an23 od24 an24 od25 an25 od26 an26 od27 an27 od28 an28 od29 an29 od30 an30 od31 an31 od32 an32 od33 an33 od34 an34 od35 an35 od36 an36 : Option Addr} {sl0 sl1 sl2 sl3 sl4 sl5 sl6 sl7 sl8 sl9 sl10 sl11 sl12 sl13 sl14 sl15 sl16 sl17 sl18 sl19 sl20 sl21 sl22 sl23 sl24 sl25 sl26 sl27 sl28 sl29 sl30 sl31 sl32 sl33 sl34 sl35 sl36 : Array (Option Value)} {oc0 kV0 dc0 pm0 cd0 ct0 oc1 kV1 dc1 pm1 cd1 ct1 oc2 kV2 dc2 pm2 cd2 ct2 oc3 kV3 dc3 pm3 cd3 ct3 oc4 kV4 dc4 pm4 cd4 ct4 oc5 kV5 dc5 pm5 cd5 ct5 oc6 kV6 dc6 pm6 cd6 ct6 oc7 kV7 dc7 pm7 cd7 ct7 oc8 kV8 dc8 pm8 cd8 ct8 oc9 kV9 dc9 pm9 cd9 ct9 oc10 kV10 dc10 pm10 cd10 ct10 oc11 kV11 dc11 pm11 cd11 ct11 oc12 kV12 dc12 pm12 cd12 ct12 oc13 kV13 dc13 pm13 cd13 ct13 oc14 kV14 dc14 pm14 cd14 ct14 oc15 kV15 dc15 pm15 cd15 ct15 oc16 kV16 dc16 pm16 cd16 ct16 oc17 kV17 dc17 pm17 cd17 ct17 oc18 kV18 dc18 pm18 cd18 ct18 oc19 kV19 dc19 pm19 cd19 ct19 oc20 kV20 dc20 pm20 cd20 ct20 oc21 kV21 dc21 pm21 cd21 ct21 oc22 kV22 dc22 pm22 cd22 ct22 oc23 kV23 dc23 pm23 cd23 ct23 oc24 kV24 dc24 pm24 cd24 ct24 oc25 kV25 dc25 pm25 cd25 ct25 oc26 kV26 dc26 pm26 cd26 ct26 oc27 kV27 dc27 pm27 cd27 ct27 oc28 kV28 dc28 pm28 cd28 ct28 oc29 kV29 dc29 pm29 cd29 ct29 oc30 kV30 dc30 pm30 cd30 ct30 oc31 kV31 dc31 pm31 cd31 ct31 oc32 kV32 dc32 pm32 cd32 ct32 oc33 kV33 dc33 pm33 cd33 ct33 oc34 kV34 dc34 pm34 cd34 ct34 oc35 kV35 dc35 pm35 cd35 ct35 oc36 kV36 dc36 pm36 cd36 ct36 : Value}
    {C_NoPaper : Addr} (aC_NoPaper : PySem.W.nsIn K mainGlobals "NoPaper" = some (some (.ref C_NoPaper)))
    {C_HourError : Addr} (aC_HourError : PySem.W.nsIn K mainGlobals "HourError" = some (some (.ref C_HourError)))
    (eC_NoPaper : PySem.W.subIn K (.ref C_NoPaper) (.type "BaseException") = some true) (tC_NoPaper : PySem.W.typeIn K (.ref C_NoPaper) = some (.type "type")) (hC_NoPaper : PySem.W.hasDictIn K C_NoPaper = true)
    (kC_NoPaper : PySem.W.keepIn K (.ref C_NoPaper) = true)
    (ga_NoPaper : PySem.W.findIn K (.ref C_NoPaper) "__getattribute__" = some (some (.builtin "BaseException.__getattribute__"))) (gg_NoPaper : PySem.W.findIn K (.ref C_NoPaper) "__getattr__" = some none)
    (xa_NoPaper : PySem.W.findIn K (.ref C_NoPaper) "__class__" = some (some (.builtin "object.__class__"))) (xb_NoPaper : PySem.W.specialIn K (.builtin "object.__class__") "__get__" = some (some (.builtin "getset_descriptor.__get__"))) (xc_NoPaper : PySem.W.takesIn K (.builtin "object.__class__") = some true) (xm_NoPaper : PySem.W.mroIn K C_NoPaper (.type "object") = some true)
    (sg_HourError : PySem.W.specialIn K (.ref C_HourError) "__getattribute__" = some (some (.builtin "type.__getattribute__"))) (rd_HourError : PySem.W.readsIn K C_HourError (.type "type") = true) (vi_HourError : PySem.W.findCls K (.ref C_HourError) (.type "type") "__init__" = some (.val (.builtin "ValueError.__init__")))
    (nx_NoPaper_word : PySem.W.findIn K (.ref C_NoPaper) "word" = some none)
    (nx_NoPaper_number : PySem.W.findIn K (.ref C_NoPaper) "number" = some none)
    {nm_NoPaper q_NoPaper : Str} {N_NoPaper : Addr} {bs_NoPaper : List Value} {sn_NoPaper : List Str} {su_NoPaper : List Value} {ab_NoPaper : Bool} {cl_NoPaper : Option Bool} {dd_NoPaper : Option Addr} {m0_NoPaper m1_NoPaper m2_NoPaper m3_NoPaper m5_NoPaper : Option Value} {fx_NoPaper : Addr} {odx_NoPaper anx_NoPaper : Option Addr} {slx_NoPaper : Array (Option Value)} {ocx_NoPaper kVx_NoPaper dcx_NoPaper pmx_NoPaper cdx_NoPaper ctx_NoPaper : Value}
    (xL_NoPaper : K.lookup C_NoPaper = some (excClassObj nm_NoPaper q_NoPaper C_NoPaper N_NoPaper bs_NoPaper [.ref C_HourError, .type "ValueError", .type "Exception", .type "BaseException", .type "object"] true sn_NoPaper su_NoPaper ab_NoPaper cl_NoPaper dd_NoPaper m0_NoPaper m1_NoPaper m2_NoPaper m3_NoPaper m5_NoPaper "ValueError.__new__")) (xs_NoPaper : PySem.W.findIn K (.ref C_NoPaper) "__setattr__" = some (some (.builtin "object.__setattr__"))) (xi_NoPaper : PySem.W.findIn K (.ref C_NoPaper) "__init__" = some (some (.ref fx_NoPaper))) (xt_NoPaper : PySem.W.typeIn K (.ref fx_NoPaper) = some (.type "function"))
    (xl_NoPaper : K.lookup fx_NoPaper = some ⟨ocx_NoPaper, odx_NoPaper, .func (PySem.W.fnOf "__init__" "NoPaper.__init__" (defArgs st_x_NoPaper) (defBody st_x_NoPaper) (defScope st_x_NoPaper) .none kVx_NoPaper dcx_NoPaper pmx_NoPaper anx_NoPaper cdx_NoPaper ctx_NoPaper), slx_NoPaper⟩) (xd_NoPaper : PySem.W.codeIn K cdx_NoPaper "NoPaper.__init__" = true) (xk_NoPaper : PySem.W.keepIn K (.ref fx_NoPaper) = true)
    (su_NoPaper_NoPaper : PySem.W.subIn K (.ref C_NoPaper) (.ref C_NoPaper) = some true)
    (ki_NoPaper_HourError : PySem.W.kitOne K (.ref C_NoPaper) (.ref C_HourError) = some true)
    (a0 : PySem.W.nsIn K mainGlobals "_law_deck" = some (some (.ref f0))) (l0 : K.lookup f0 = some ⟨oc0, od0, .func (PySem.W.fnOf "_law_deck" "_law_deck" (defArgs st_law_deck_91e6) (defBody st_law_deck_91e6) (defScope st_law_deck_91e6) .none kV0 dc0 pm0 an0 cd0 ct0), sl0⟩) (c0 : PySem.W.codeIn K cd0 "_law_deck" = true) (k0 : PySem.W.keepIn K (.ref f0) = true)
    (a1 : PySem.W.nsIn K mainGlobals "_law_draw" = some (some (.ref f1))) (l1 : K.lookup f1 = some ⟨oc1, od1, .func (PySem.W.fnOf "_law_draw" "_law_draw" (defArgs st_law_draw_a51a) (defBody st_law_draw_a51a) (defScope st_law_draw_a51a) .none kV1 dc1 pm1 an1 cd1 ct1), sl1⟩) (c1 : PySem.W.codeIn K cd1 "_law_draw" = true) (k1 : PySem.W.keepIn K (.ref f1) = true)
    (a2 : PySem.W.nsIn K mainGlobals "_law_one" = some (some (.ref f2))) (l2 : K.lookup f2 = some ⟨oc2, od2, .func (PySem.W.fnOf "_law_one" "_law_one" (defArgs st_law_one_90da) (defBody st_law_one_90da) (defScope st_law_one_90da) .none kV2 dc2 pm2 an2 cd2 ct2), sl2⟩) (c2 : PySem.W.codeIn K cd2 "_law_one" = true) (k2 : PySem.W.keepIn K (.ref f2) = true)
    (a3 : PySem.W.nsIn K mainGlobals "_law_clock" = some (some (.ref f3))) (l3 : K.lookup f3 = some ⟨oc3, od3, .func (PySem.W.fnOf "_law_clock" "_law_clock" (defArgs st_law_clock_4333) (defBody st_law_clock_4333) (defScope st_law_clock_4333) .none kV3 dc3 pm3 an3 cd3 ct3), sl3⟩) (c3 : PySem.W.codeIn K cd3 "_law_clock" = true) (k3 : PySem.W.keepIn K (.ref f3) = true)
    (a4 : PySem.W.nsIn K mainGlobals "_law_leaf" = some (some (.ref f4))) (l4 : K.lookup f4 = some ⟨oc4, od4, .func (PySem.W.fnOf "_law_leaf" "_law_leaf" (defArgs st_law_leaf_a91b) (defBody st_law_leaf_a91b) (defScope st_law_leaf_a91b) .none kV4 dc4 pm4 an4 cd4 ct4), sl4⟩) (c4 : PySem.W.codeIn K cd4 "_law_leaf" = true) (k4 : PySem.W.keepIn K (.ref f4) = true)
    (a5 : PySem.W.nsIn K mainGlobals "_law_formula" = some (some (.ref f5))) (l5 : K.lookup f5 = some ⟨oc5, od5, .func (PySem.W.fnOf "_law_formula" "_law_formula" (defArgs st_law_formula_6b2b) (defBody st_law_formula_6b2b) (defScope st_law_formula_6b2b) .none kV5 dc5 pm5 an5 cd5 ct5), sl5⟩) (c5 : PySem.W.codeIn K cd5 "_law_formula" = true) (k5 : PySem.W.keepIn K (.ref f5) = true)
    (a6 : PySem.W.nsIn K mainGlobals "_law_common" = some (some (.ref f6))) (l6 : K.lookup f6 = some ⟨oc6, od6, .func (PySem.W.fnOf "_law_common" "_law_common" (defArgs st_law_common_ae84) (defBody st_law_common_ae84) (defScope st_law_common_ae84) .none kV6 dc6 pm6 an6 cd6 ct6), sl6⟩) (c6 : PySem.W.codeIn K cd6 "_law_common" = true) (k6 : PySem.W.keepIn K (.ref f6) = true)
    (a7 : PySem.W.nsIn K mainGlobals "_law_falling" = some (some (.ref f7))) (l7 : K.lookup f7 = some ⟨oc7, od7, .func (PySem.W.fnOf "_law_falling" "_law_falling" (defArgs st_law_falling_d92b) (defBody st_law_falling_d92b) (defScope st_law_falling_d92b) .none kV7 dc7 pm7 an7 cd7 ct7), sl7⟩) (c7 : PySem.W.codeIn K cd7 "_law_falling" = true) (k7 : PySem.W.keepIn K (.ref f7) = true)
    (a8 : PySem.W.nsIn K mainGlobals "_law_chain" = some (some (.ref f8))) (l8 : K.lookup f8 = some ⟨oc8, od8, .func (PySem.W.fnOf "_law_chain" "_law_chain" (defArgs st_law_chain_f3d4) (defBody st_law_chain_f3d4) (defScope st_law_chain_f3d4) .none kV8 dc8 pm8 an8 cd8 ct8), sl8⟩) (c8 : PySem.W.codeIn K cd8 "_law_chain" = true) (k8 : PySem.W.keepIn K (.ref f8) = true)
    (a9 : PySem.W.nsIn K mainGlobals "_law_near" = some (some (.ref f9))) (l9 : K.lookup f9 = some ⟨oc9, od9, .func (PySem.W.fnOf "_law_near" "_law_near" (defArgs st_law_near_025f) (defBody st_law_near_025f) (defScope st_law_near_025f) .none kV9 dc9 pm9 an9 cd9 ct9), sl9⟩) (c9 : PySem.W.codeIn K cd9 "_law_near" = true) (k9 : PySem.W.keepIn K (.ref f9) = true)
    (a10 : PySem.W.nsIn K mainGlobals "_law_two" = some (some (.ref f10))) (l10 : K.lookup f10 = some ⟨oc10, od10, .func (PySem.W.fnOf "_law_two" "_law_two" (defArgs st_law_two_14d8) (defBody st_law_two_14d8) (defScope st_law_two_14d8) .none kV10 dc10 pm10 an10 cd10 ct10), sl10⟩) (c10 : PySem.W.codeIn K cd10 "_law_two" = true) (k10 : PySem.W.keepIn K (.ref f10) = true)
    (a11 : PySem.W.nsIn K mainGlobals "powered" = some (some (.ref f11))) (l11 : K.lookup f11 = some ⟨oc11, od11, .func (PySem.W.fnOf "powered" "powered" (defArgs st_powered) (defBody st_powered) (defScope st_powered) .none kV11 dc11 pm11 an11 cd11 ct11), sl11⟩) (c11 : PySem.W.codeIn K cd11 "powered" = true) (k11 : PySem.W.keepIn K (.ref f11) = true)
    (a12 : PySem.W.nsIn K mainGlobals "worth" = some (some (.ref f12))) (l12 : K.lookup f12 = some ⟨oc12, od12, .func (PySem.W.fnOf "worth" "worth" (defArgs st_worth) (defBody st_worth) (defScope st_worth) .none kV12 dc12 pm12 an12 cd12 ct12), sl12⟩) (c12 : PySem.W.codeIn K cd12 "worth" = true) (k12 : PySem.W.keepIn K (.ref f12) = true)
    (a13 : PySem.W.nsIn K mainGlobals "parted" = some (some (.ref f13))) (l13 : K.lookup f13 = some ⟨oc13, od13, .func (PySem.W.fnOf "parted" "parted" (defArgs st_parted) (defBody st_parted) (defScope st_parted) .none kV13 dc13 pm13 an13 cd13 ct13), sl13⟩) (c13 : PySem.W.codeIn K cd13 "parted" = true) (k13 : PySem.W.keepIn K (.ref f13) = true)
    (a14 : PySem.W.nsIn K mainGlobals "differences" = some (some (.ref f14))) (l14 : K.lookup f14 = some ⟨oc14, od14, .func (PySem.W.fnOf "differences" "differences" (defArgs st_differences) (defBody st_differences) (defScope st_differences) .none kV14 dc14 pm14 an14 cd14 ct14), sl14⟩) (c14 : PySem.W.codeIn K cd14 "differences" = true) (k14 : PySem.W.keepIn K (.ref f14) = true)
    (a15 : PySem.W.nsIn K mainGlobals "square" = some (some (.ref f15))) (l15 : K.lookup f15 = some ⟨oc15, od15, .func (PySem.W.fnOf "square" "square" (defArgs st_square) (defBody st_square) (defScope st_square) .none kV15 dc15 pm15 an15 cd15 ct15), sl15⟩) (c15 : PySem.W.codeIn K cd15 "square" = true) (k15 : PySem.W.keepIn K (.ref f15) = true)
    (a16 : PySem.W.nsIn K mainGlobals "factorial" = some (some (.ref f16))) (l16 : K.lookup f16 = some ⟨oc16, od16, .func (PySem.W.fnOf "factorial" "factorial" (defArgs st_factorial) (defBody st_factorial) (defScope st_factorial) .none kV16 dc16 pm16 an16 cd16 ct16), sl16⟩) (c16 : PySem.W.codeIn K cd16 "factorial" = true) (k16 : PySem.W.keepIn K (.ref f16) = true)
    (a17 : PySem.W.nsIn K mainGlobals "rows_of" = some (some (.ref f17))) (l17 : K.lookup f17 = some ⟨oc17, od17, .func (PySem.W.fnOf "rows_of" "rows_of" (defArgs st_rows_of) (defBody st_rows_of) (defScope st_rows_of) .none kV17 dc17 pm17 an17 cd17 ct17), sl17⟩) (c17 : PySem.W.codeIn K cd17 "rows_of" = true) (k17 : PySem.W.keepIn K (.ref f17) = true)
    (a18 : PySem.W.nsIn K mainGlobals "gap" = some (some (.ref f18))) (l18 : K.lookup f18 = some ⟨oc18, od18, .func (PySem.W.fnOf "gap" "gap" (defArgs st_gap) (defBody st_gap) (defScope st_gap) .none kV18 dc18 pm18 an18 cd18 ct18), sl18⟩) (c18 : PySem.W.codeIn K cd18 "gap" = true) (k18 : PySem.W.keepIn K (.ref f18) = true)
    (a19 : PySem.W.nsIn K mainGlobals "common" = some (some (.ref f19))) (l19 : K.lookup f19 = some ⟨oc19, od19, .func (PySem.W.fnOf "common" "common" (defArgs st_common) (defBody st_common) (defScope st_common) .none kV19 dc19 pm19 an19 cd19 ct19), sl19⟩) (c19 : PySem.W.codeIn K cd19 "common" = true) (k19 : PySem.W.keepIn K (.ref f19) = true)
    (a20 : PySem.W.nsIn K mainGlobals "step_of" = some (some (.ref f20))) (l20 : K.lookup f20 = some ⟨oc20, od20, .func (PySem.W.fnOf "step_of" "step_of" (defArgs st_step_of) (defBody st_step_of) (defScope st_step_of) .none kV20 dc20 pm20 an20 cd20 ct20), sl20⟩) (c20 : PySem.W.codeIn K cd20 "step_of" = true) (k20 : PySem.W.keepIn K (.ref f20) = true)
    (a21 : PySem.W.nsIn K mainGlobals "paper" = some (some (.ref f21))) (l21 : K.lookup f21 = some ⟨oc21, od21, .func (PySem.W.fnOf "paper" "paper" (defArgs st_paper) (defBody st_paper) (defScope st_paper) .none kV21 dc21 pm21 an21 cd21 ct21), sl21⟩) (c21 : PySem.W.codeIn K cd21 "paper" = true) (k21 : PySem.W.keepIn K (.ref f21) = true)
    (a22 : PySem.W.nsIn K mainGlobals "_law_is_whole" = some (some (.ref f22))) (l22 : K.lookup f22 = some ⟨oc22, od22, .func (PySem.W.fnOf "_law_is_whole" "_law_is_whole" (defArgs st_law_is_whole_93bd) (defBody st_law_is_whole_93bd) (defScope st_law_is_whole_93bd) .none kV22 dc22 pm22 an22 cd22 ct22), sl22⟩) (c22 : PySem.W.codeIn K cd22 "_law_is_whole" = true) (k22 : PySem.W.keepIn K (.ref f22) = true)
    (a23 : PySem.W.nsIn K mainGlobals "_law_is_entry" = some (some (.ref f23))) (l23 : K.lookup f23 = some ⟨oc23, od23, .func (PySem.W.fnOf "_law_is_entry" "_law_is_entry" (defArgs st_law_is_entry_6be6) (defBody st_law_is_entry_6be6) (defScope st_law_is_entry_6be6) .none kV23 dc23 pm23 an23 cd23 ct23), sl23⟩) (c23 : PySem.W.codeIn K cd23 "_law_is_entry" = true) (k23 : PySem.W.keepIn K (.ref f23) = true)
    (a24 : PySem.W.nsIn K mainGlobals "_law_step" = some (some (.ref f24))) (l24 : K.lookup f24 = some ⟨oc24, od24, .func (PySem.W.fnOf "_law_step" "_law_step" (defArgs st_law_step_b26f) (defBody st_law_step_b26f) (defScope st_law_step_b26f) .none kV24 dc24 pm24 an24 cd24 ct24), sl24⟩) (c24 : PySem.W.codeIn K cd24 "_law_step" = true) (k24 : PySem.W.keepIn K (.ref f24) = true)
    (a25 : PySem.W.nsIn K mainGlobals "_law_worth" = some (some (.ref f25))) (l25 : K.lookup f25 = some ⟨oc25, od25, .func (PySem.W.fnOf "_law_worth" "_law_worth" (defArgs st_law_worth_98b9) (defBody st_law_worth_98b9) (defScope st_law_worth_98b9) .none kV25 dc25 pm25 an25 cd25 ct25), sl25⟩) (c25 : PySem.W.codeIn K cd25 "_law_worth" = true) (k25 : PySem.W.keepIn K (.ref f25) = true)
    (a26 : PySem.W.nsIn K mainGlobals "_law_adds_up" = some (some (.ref f26))) (l26 : K.lookup f26 = some ⟨oc26, od26, .func (PySem.W.fnOf "_law_adds_up" "_law_adds_up" (defArgs st_law_adds_up_a28d) (defBody st_law_adds_up_a28d) (defScope st_law_adds_up_a28d) .none kV26 dc26 pm26 an26 cd26 ct26), sl26⟩) (c26 : PySem.W.codeIn K cd26 "_law_adds_up" = true) (k26 : PySem.W.keepIn K (.ref f26) = true)
    (a27 : PySem.W.nsIn K mainGlobals "_law_due" = some (some (.ref f27))) (l27 : K.lookup f27 = some ⟨oc27, od27, .func (PySem.W.fnOf "_law_due" "_law_due" (defArgs st_law_due_4155) (defBody st_law_due_4155) (defScope st_law_due_4155) .none kV27 dc27 pm27 an27 cd27 ct27), sl27⟩) (c27 : PySem.W.codeIn K cd27 "_law_due" = true) (k27 : PySem.W.keepIn K (.ref f27) = true)
    (a28 : PySem.W.nsIn K mainGlobals "is_integer" = some (some (.ref f28))) (l28 : K.lookup f28 = some ⟨oc28, od28, .func (PySem.W.fnOf "is_integer" "is_integer" (defArgs st_is_integer) (defBody st_is_integer) (defScope st_is_integer) .none kV28 dc28 pm28 an28 cd28 ct28), sl28⟩) (c28 : PySem.W.codeIn K cd28 "is_integer" = true) (k28 : PySem.W.keepIn K (.ref f28) = true)
    (a29 : PySem.W.nsIn K mainGlobals "is_triple" = some (some (.ref f29))) (l29 : K.lookup f29 = some ⟨oc29, od29, .func (PySem.W.fnOf "is_triple" "is_triple" (defArgs st_is_triple) (defBody st_is_triple) (defScope st_is_triple) .none kV29 dc29 pm29 an29 cd29 ct29), sl29⟩) (c29 : PySem.W.codeIn K cd29 "is_triple" = true) (k29 : PySem.W.keepIn K (.ref f29) = true)
    (a30 : PySem.W.nsIn K mainGlobals "check_rows" = some (some (.ref f30))) (l30 : K.lookup f30 = some ⟨oc30, od30, .func (PySem.W.fnOf "check_rows" "check_rows" (defArgs st_check_rows_e) (defBody st_check_rows_e) (defScope st_check_rows_e) .none kV30 dc30 pm30 an30 cd30 ct30), sl30⟩) (c30 : PySem.W.codeIn K cd30 "check_rows" = true) (k30 : PySem.W.keepIn K (.ref f30) = true)
    (a31 : PySem.W.nsIn K mainGlobals "hour" = some (some (.ref f31))) (l31 : K.lookup f31 = some ⟨oc31, od31, .func (PySem.W.fnOf "hour" "hour" (defArgs st_hour) (defBody st_hour) (defScope st_hour) .none kV31 dc31 pm31 an31 cd31 ct31), sl31⟩) (c31 : PySem.W.codeIn K cd31 "hour" = true) (k31 : PySem.W.keepIn K (.ref f31) = true)
    (a32 : PySem.W.nsIn K mainGlobals "is_paper" = some (some (.ref f32))) (l32 : K.lookup f32 = some ⟨oc32, od32, .func (PySem.W.fnOf "is_paper" "is_paper" (defArgs st_is_paper_e) (defBody st_is_paper_e) (defScope st_is_paper_e) .none kV32 dc32 pm32 an32 cd32 ct32), sl32⟩) (c32 : PySem.W.codeIn K cd32 "is_paper" = true) (k32 : PySem.W.keepIn K (.ref f32) = true)
    (a33 : PySem.W.nsIn K mainGlobals "_law_told" = some (some (.ref f33))) (l33 : K.lookup f33 = some ⟨oc33, od33, .func (PySem.W.fnOf "_law_told" "_law_told" (defArgs st_law_told_6c3d_e) (defBody st_law_told_6c3d_e) (defScope st_law_told_6c3d_e) .none kV33 dc33 pm33 an33 cd33 ct33), sl33⟩) (c33 : PySem.W.codeIn K cd33 "_law_told" = true) (k33 : PySem.W.keepIn K (.ref f33) = true)
    (a34 : PySem.W.nsIn K mainGlobals "_law_bent_entries" = some (some (.ref f34))) (l34 : K.lookup f34 = some ⟨oc34, od34, .func (PySem.W.fnOf "_law_bent_entries" "_law_bent_entries" (defArgs st_law_bent_entries_5bbe) (defBody st_law_bent_entries_5bbe) (defScope st_law_bent_entries_5bbe) .none kV34 dc34 pm34 an34 cd34 ct34), sl34⟩) (c34 : PySem.W.codeIn K cd34 "_law_bent_entries" = true) (k34 : PySem.W.keepIn K (.ref f34) = true)
    (a35 : PySem.W.nsIn K mainGlobals "_law_bent" = some (some (.ref f35))) (l35 : K.lookup f35 = some ⟨oc35, od35, .func (PySem.W.fnOf "_law_bent" "_law_bent" (defArgs st_law_bent_aa32) (defBody st_law_bent_aa32) (defScope st_law_bent_aa32) .none kV35 dc35 pm35 an35 cd35 ct35), sl35⟩) (c35 : PySem.W.codeIn K cd35 "_law_bent" = true) (k35 : PySem.W.keepIn K (.ref f35) = true)
    (a36 : PySem.W.nsIn K mainGlobals "law" = some (some (.ref f36))) (l36 : K.lookup f36 = some ⟨oc36, od36, .func (PySem.W.fnOf "law" "law" (defArgs st_law) (defBody st_law) (defScope st_law) .none kV36 dc36 pm36 an36 cd36 ct36), sl36⟩) (c36 : PySem.W.codeIn K cd36 "law" = true) (k36 : PySem.W.keepIn K (.ref f36) = true)
    (z_list : PySem.W.nsIn K mainGlobals "list" = some none)
    (z_int : PySem.W.nsIn K mainGlobals "int" = some none)
    (z_len : PySem.W.nsIn K mainGlobals "len" = some none)
    (z_abs : PySem.W.nsIn K mainGlobals "abs" = some none)
    (z_max : PySem.W.nsIn K mainGlobals "max" = some none)
    (z_range : PySem.W.nsIn K mainGlobals "range" = some none)
    (z_min : PySem.W.nsIn K mainGlobals "min" = some none)
    (z_isinstance : PySem.W.nsIn K mainGlobals "isinstance" = some none)
    (z_tuple : PySem.W.nsIn K mainGlobals "tuple" = some none)
    (z_zip : PySem.W.nsIn K mainGlobals "zip" = some none)
    (z_enumerate : PySem.W.nsIn K mainGlobals "enumerate" = some none)
    (z_sorted : PySem.W.nsIn K mainGlobals "sorted" = some none)
    (z_bool : PySem.W.nsIn K mainGlobals "bool" = some none)
    (z_str : PySem.W.nsIn K mainGlobals "str" = some none)
    (z_sum : PySem.W.nsIn K mainGlobals "sum" = some none)
    (z_repr : PySem.W.nsIn K mainGlobals "repr" = some none)
    (z_all : PySem.W.nsIn K mainGlobals "all" = some none)
    {t_MOST_REACH : Tok} (m_MOST_REACH : PySem.W.nsIn K mainGlobals "MOST_REACH" = some (some (.int (16) t_MOST_REACH)))
    : ∃ fd : FuncData, (∀ (s : Shared) (v : Value), BindsTo s fd ⟨[v], []⟩ [("script", v)]) ∧ ∀ base : Heap, K.In base → base.Ns mainGlobals mg → base.NoDigits → FnG l.prog w K mg base CX0 25 fa fd ["script"] (liftC K lawS) := by
  have e := hfa.symm.trans (PySem.W.mg_of X G a36)
  cases e
  have m_NoPaper := PySem.W.mg_of X G aC_NoPaper
  have m_HourError := PySem.W.mg_of X G aC_HourError
  have he_HourError : HeC K C_HourError := ⟨sg_HourError, rd_HourError, vi_HourError⟩
  have ox_NoPaper : OexC K C_NoPaper := ⟨⟨_, _, _, _, _, _, _, _, _, _, _, _, _, _, _, xL_NoPaper, by first | rfl | with_unfolding_all rfl | simp [PySem.HandSPX.refsVE]⟩, xs_NoPaper, eC_NoPaper, tC_NoPaper, kC_NoPaper⟩
  have em_NoPaper_NoPaper := PySem.W.exm_ref eC_NoPaper hC_NoPaper tC_NoPaper su_NoPaper_NoPaper
  have xe_NoPaper : ExcC K C_NoPaper := ⟨ga_NoPaper, gg_NoPaper, eC_NoPaper, hC_NoPaper, xa_NoPaper, xb_NoPaper, xc_NoPaper, xm_NoPaper⟩
  have xf_NoPaper : XfC K C_NoPaper := ⟨ga_NoPaper, gg_NoPaper, eC_NoPaper, hC_NoPaper⟩
  have F_law_deck_91e6 := fun_mk (st := st_law_deck_91e6) l0 c0 k0
  have D_law_deck_91e6 : Dn K mg "_law_deck" st_law_deck_91e6 ["script"] := ⟨⟨_, _, F_law_deck_91e6, PySem.W.mg_of X G a0, F_law_deck_91e6.binds (ps := ["script"]) fun _ _ _ _ _ _ us hl => match us, hl with | [_], _ => rfl⟩⟩
  have F_law_draw_a51a := fun_mk (st := st_law_draw_a51a) l1 c1 k1
  have D_law_draw_a51a : Dn K mg "_law_draw" st_law_draw_a51a ["deck", "many"] := ⟨⟨_, _, F_law_draw_a51a, PySem.W.mg_of X G a1, F_law_draw_a51a.binds (ps := ["deck", "many"]) fun _ _ _ _ _ _ us hl => match us, hl with | [_, _], _ => rfl⟩⟩
  have F_law_one_90da := fun_mk (st := st_law_one_90da) l2 c2 k2
  have D_law_one_90da : Dn K mg "_law_one" st_law_one_90da ["deck", "items"] := ⟨⟨_, _, F_law_one_90da, PySem.W.mg_of X G a2, F_law_one_90da.binds (ps := ["deck", "items"]) fun _ _ _ _ _ _ us hl => match us, hl with | [_, _], _ => rfl⟩⟩
  have F_law_clock_4333 := fun_mk (st := st_law_clock_4333) l3 c3 k3
  have D_law_clock_4333 : Dn K mg "_law_clock" st_law_clock_4333 ["deck"] := ⟨⟨_, _, F_law_clock_4333, PySem.W.mg_of X G a3, F_law_clock_4333.binds (ps := ["deck"]) fun _ _ _ _ _ _ us hl => match us, hl with | [_], _ => rfl⟩⟩
  have F_law_leaf_a91b := fun_mk (st := st_law_leaf_a91b) l4 c4 k4
  have D_law_leaf_a91b : Dn K mg "_law_leaf" st_law_leaf_a91b ["deck", "letters"] := ⟨⟨_, _, F_law_leaf_a91b, PySem.W.mg_of X G a4, F_law_leaf_a91b.binds (ps := ["deck", "letters"]) fun _ _ _ _ _ _ us hl => match us, hl with | [_, _], _ => rfl⟩⟩
  have F_law_formula_6b2b := fun_mk (st := st_law_formula_6b2b) l5 c5 k5
  have D_law_formula_6b2b : Dn K mg "_law_formula" st_law_formula_6b2b ["deck", "letters", "room", "deep"] := ⟨⟨_, _, F_law_formula_6b2b, PySem.W.mg_of X G a5, F_law_formula_6b2b.binds (ps := ["deck", "letters", "room", "deep"]) fun _ _ _ _ _ _ us hl => match us, hl with | [_, _, _, _], _ => rfl⟩⟩
  have F_law_common_ae84 := fun_mk (st := st_law_common_ae84) l6 c6 k6
  have D_law_common_ae84 : Dn K mg "_law_common" st_law_common_ae84 ["one", "other"] := ⟨⟨_, _, F_law_common_ae84, PySem.W.mg_of X G a6, F_law_common_ae84.binds (ps := ["one", "other"]) fun _ _ _ _ _ _ us hl => match us, hl with | [_, _], _ => rfl⟩⟩
  have F_law_falling_d92b := fun_mk (st := st_law_falling_d92b) l7 c7 k7
  have D_law_falling_d92b : Dn K mg "_law_falling" st_law_falling_d92b ["x", "many"] := ⟨⟨_, _, F_law_falling_d92b, PySem.W.mg_of X G a7, F_law_falling_d92b.binds (ps := ["x", "many"]) fun _ _ _ _ _ _ us hl => match us, hl with | [_, _], _ => rfl⟩⟩
  have F_law_chain_f3d4 := fun_mk (st := st_law_chain_f3d4) l8 c8 k8
  have D_law_chain_f3d4 : Dn K mg "_law_chain" st_law_chain_f3d4 ["letter", "many"] := ⟨⟨_, _, F_law_chain_f3d4, PySem.W.mg_of X G a8, F_law_chain_f3d4.binds (ps := ["letter", "many"]) fun _ _ _ _ _ _ us hl => match us, hl with | [_, _], _ => rfl⟩⟩
  have F_law_near_025f := fun_mk (st := st_law_near_025f) l9 c9 k9
  have D_law_near_025f : Dn K mg "_law_near" st_law_near_025f ["deck", "formula", "clock"] := ⟨⟨_, _, F_law_near_025f, PySem.W.mg_of X G a9, F_law_near_025f.binds (ps := ["deck", "formula", "clock"]) fun _ _ _ _ _ _ us hl => match us, hl with | [_, _, _], _ => rfl⟩⟩
  have F_law_two_14d8 := fun_mk (st := st_law_two_14d8) l10 c10 k10
  have D_law_two_14d8 : Dn K mg "_law_two" st_law_two_14d8 ["deck", "clock"] := ⟨⟨_, _, F_law_two_14d8, PySem.W.mg_of X G a10, F_law_two_14d8.binds (ps := ["deck", "clock"]) fun _ _ _ _ _ _ us hl => match us, hl with | [_, _], _ => rfl⟩⟩
  have F_powered := fun_mk (st := st_powered) l11 c11 k11
  have D_powered : Dn K mg "powered" st_powered ["number", "times"] := ⟨⟨_, _, F_powered, PySem.W.mg_of X G a11, F_powered.binds (ps := ["number", "times"]) fun _ _ _ _ _ _ us hl => match us, hl with | [_, _], _ => rfl⟩⟩
  have F_worth := fun_mk (st := st_worth) l12 c12 k12
  have D_worth : Dn K mg "worth" st_worth ["formula", "x", "y"] := ⟨⟨_, _, F_worth, PySem.W.mg_of X G a12, F_worth.binds (ps := ["formula", "x", "y"]) fun _ _ _ _ _ _ us hl => match us, hl with | [_, _, _], _ => rfl⟩⟩
  have F_parted := fun_mk (st := st_parted) l13 c13 k13
  have D_parted : Dn K mg "parted" st_parted ["one", "other", "clock"] := ⟨⟨_, _, F_parted, PySem.W.mg_of X G a13, F_parted.binds (ps := ["one", "other", "clock"]) fun _ _ _ _ _ _ us hl => match us, hl with | [_, _, _], _ => rfl⟩⟩
  have F_differences := fun_mk (st := st_differences) l14 c14 k14
  have D_differences : Dn K mg "differences" st_differences ["items"] := ⟨⟨_, _, F_differences, PySem.W.mg_of X G a14, F_differences.binds (ps := ["items"]) fun _ _ _ _ _ _ us hl => match us, hl with | [_], _ => rfl⟩⟩
  have F_square := fun_mk (st := st_square) l15 c15 k15
  have D_square : Dn K mg "square" st_square ["formula"] := ⟨⟨_, _, F_square, PySem.W.mg_of X G a15, F_square.binds (ps := ["formula"]) fun _ _ _ _ _ _ us hl => match us, hl with | [_], _ => rfl⟩⟩
  have F_factorial := fun_mk (st := st_factorial) l16 c16 k16
  have D_factorial : Dn K mg "factorial" st_factorial ["number"] := ⟨⟨_, _, F_factorial, PySem.W.mg_of X G a16, F_factorial.binds (ps := ["number"]) fun _ _ _ _ _ _ us hl => match us, hl with | [_], _ => rfl⟩⟩
  have F_rows_of := fun_mk (st := st_rows_of) l17 c17 k17
  have D_rows_of : Dn K mg "rows_of" st_rows_of ["formula"] := ⟨⟨_, _, F_rows_of, PySem.W.mg_of X G a17, F_rows_of.binds (ps := ["formula"]) fun _ _ _ _ _ _ us hl => match us, hl with | [_], _ => rfl⟩⟩
  have F_gap := fun_mk (st := st_gap) l18 c18 k18
  have D_gap : Dn K mg "gap" st_gap ["one", "other"] := ⟨⟨_, _, F_gap, PySem.W.mg_of X G a18, F_gap.binds (ps := ["one", "other"]) fun _ _ _ _ _ _ us hl => match us, hl with | [_, _], _ => rfl⟩⟩
  have F_common := fun_mk (st := st_common) l19 c19 k19
  have D_common : Dn K mg "common" st_common ["one", "other"] := ⟨⟨_, _, F_common, PySem.W.mg_of X G a19, F_common.binds (ps := ["one", "other"]) fun _ _ _ _ _ _ us hl => match us, hl with | [_, _], _ => rfl⟩⟩
  have F_step_of := fun_mk (st := st_step_of) l20 c20 k20
  have D_step_of : Dn K mg "step_of" st_step_of ["clock", "i", "j"] := ⟨⟨_, _, F_step_of, PySem.W.mg_of X G a20, F_step_of.binds (ps := ["clock", "i", "j"]) fun _ _ _ _ _ _ us hl => match us, hl with | [_, _, _], _ => rfl⟩⟩
  have F_paper := fun_mk (st := st_paper) l21 c21 k21
  have D_paper : Dn K mg "paper" st_paper ["one", "other", "clock"] := ⟨⟨_, _, F_paper, PySem.W.mg_of X G a21, F_paper.binds (ps := ["one", "other", "clock"]) fun _ _ _ _ _ _ us hl => match us, hl with | [_, _, _], _ => rfl⟩⟩
  have F_law_is_whole_93bd := fun_mk (st := st_law_is_whole_93bd) l22 c22 k22
  have D_law_is_whole_93bd : Dn K mg "_law_is_whole" st_law_is_whole_93bd ["value"] := ⟨⟨_, _, F_law_is_whole_93bd, PySem.W.mg_of X G a22, F_law_is_whole_93bd.binds (ps := ["value"]) fun _ _ _ _ _ _ us hl => match us, hl with | [_], _ => rfl⟩⟩
  have F_law_is_entry_6be6 := fun_mk (st := st_law_is_entry_6be6) l23 c23 k23
  have D_law_is_entry_6be6 : Dn K mg "_law_is_entry" st_law_is_entry_6be6 ["value"] := ⟨⟨_, _, F_law_is_entry_6be6, PySem.W.mg_of X G a23, F_law_is_entry_6be6.binds (ps := ["value"]) fun _ _ _ _ _ _ us hl => match us, hl with | [_], _ => rfl⟩⟩
  have F_law_step_b26f := fun_mk (st := st_law_step_b26f) l24 c24 k24
  have D_law_step_b26f : Dn K mg "_law_step" st_law_step_b26f ["clock", "i", "j"] := ⟨⟨_, _, F_law_step_b26f, PySem.W.mg_of X G a24, F_law_step_b26f.binds (ps := ["clock", "i", "j"]) fun _ _ _ _ _ _ us hl => match us, hl with | [_, _, _], _ => rfl⟩⟩
  have F_law_worth_98b9 := fun_mk (st := st_law_worth_98b9) l25 c25 k25
  have D_law_worth_98b9 : Dn K mg "_law_worth" st_law_worth_98b9 ["formula", "x", "y"] := ⟨⟨_, _, F_law_worth_98b9, PySem.W.mg_of X G a25, F_law_worth_98b9.binds (ps := ["formula", "x", "y"]) fun _ _ _ _ _ _ us hl => match us, hl with | [_, _, _], _ => rfl⟩⟩
  have F_law_adds_up_a28d := fun_mk (st := st_law_adds_up_a28d) l26 c26 k26
  have D_law_adds_up_a28d : Dn K mg "_law_adds_up" st_law_adds_up_a28d ["one", "other", "clock", "entries"] := ⟨⟨_, _, F_law_adds_up_a28d, PySem.W.mg_of X G a26, F_law_adds_up_a28d.binds (ps := ["one", "other", "clock", "entries"]) fun _ _ _ _ _ _ us hl => match us, hl with | [_, _, _, _], _ => rfl⟩⟩
  have F_law_due_4155 := fun_mk (st := st_law_due_4155) l27 c27 k27
  have D_law_due_4155 : Dn K mg "_law_due" st_law_due_4155 ["one", "other", "clock", "value"] := ⟨⟨_, _, F_law_due_4155, PySem.W.mg_of X G a27, F_law_due_4155.binds (ps := ["one", "other", "clock", "value"]) fun _ _ _ _ _ _ us hl => match us, hl with | [_, _, _, _], _ => rfl⟩⟩
  have F_is_integer := fun_mk (st := st_is_integer) l28 c28 k28
  have D_is_integer : Dn K mg "is_integer" st_is_integer ["value"] := ⟨⟨_, _, F_is_integer, PySem.W.mg_of X G a28, F_is_integer.binds (ps := ["value"]) fun _ _ _ _ _ _ us hl => match us, hl with | [_], _ => rfl⟩⟩
  have F_is_triple := fun_mk (st := st_is_triple) l29 c29 k29
  have D_is_triple : Dn K mg "is_triple" st_is_triple ["value", "most"] := ⟨⟨_, _, F_is_triple, PySem.W.mg_of X G a29, F_is_triple.binds (ps := ["value", "most"]) fun _ _ _ _ _ _ us hl => match us, hl with | [_, _], _ => rfl⟩⟩
  have F_check_rows_e := fun_mk (st := st_check_rows_e) l30 c30 k30
  have D_check_rows_e : Dn K mg "check_rows" st_check_rows_e ["one", "other", "clock", "rows"] := ⟨⟨_, _, F_check_rows_e, PySem.W.mg_of X G a30, F_check_rows_e.binds (ps := ["one", "other", "clock", "rows"]) fun _ _ _ _ _ _ us hl => match us, hl with | [_, _, _, _], _ => rfl⟩⟩
  have F_hour := fun_mk (st := st_hour) l31 c31 k31
  have D_hour : Dn K mg "hour" st_hour ["formula", "clock", "x", "y"] := ⟨⟨_, _, F_hour, PySem.W.mg_of X G a31, F_hour.binds (ps := ["formula", "clock", "x", "y"]) fun _ _ _ _ _ _ us hl => match us, hl with | [_, _, _, _], _ => rfl⟩⟩
  have F_is_paper_e := fun_mk (st := st_is_paper_e) l32 c32 k32
  have D_is_paper_e : Dn K mg "is_paper" st_is_paper_e ["one", "other", "clock", "value"] := ⟨⟨_, _, F_is_paper_e, PySem.W.mg_of X G a32, F_is_paper_e.binds (ps := ["one", "other", "clock", "value"]) fun _ _ _ _ _ _ us hl => match us, hl with | [_, _, _, _], _ => rfl⟩⟩
  have F_law_told_6c3d_e := fun_mk (st := st_law_told_6c3d_e) l33 c33 k33
  have D_law_told_6c3d_e : Dn K mg "_law_told" st_law_told_6c3d_e ["one", "other", "clock", "value"] := ⟨⟨_, _, F_law_told_6c3d_e, PySem.W.mg_of X G a33, F_law_told_6c3d_e.binds (ps := ["one", "other", "clock", "value"]) fun _ _ _ _ _ _ us hl => match us, hl with | [_, _, _, _], _ => rfl⟩⟩
  have F_law_bent_entries_5bbe := fun_mk (st := st_law_bent_entries_5bbe) l34 c34 k34
  have D_law_bent_entries_5bbe : Dn K mg "_law_bent_entries" st_law_bent_entries_5bbe ["deck", "entries"] := ⟨⟨_, _, F_law_bent_entries_5bbe, PySem.W.mg_of X G a34, F_law_bent_entries_5bbe.binds (ps := ["deck", "entries"]) fun _ _ _ _ _ _ us hl => match us, hl with | [_, _], _ => rfl⟩⟩
  have F_law_bent_aa32 := fun_mk (st := st_law_bent_aa32) l35 c35 k35
  have D_law_bent_aa32 : Dn K mg "_law_bent" st_law_bent_aa32 ["deck", "value"] := ⟨⟨_, _, F_law_bent_aa32, PySem.W.mg_of X G a35, F_law_bent_aa32.binds (ps := ["deck", "value"]) fun _ _ _ _ _ _ us hl => match us, hl with | [_, _], _ => rfl⟩⟩
  have F_law := fun_mk (st := st_law) l36 c36 k36
  have b_list := PySem.W.mg_none_of X G z_list
  have b_int := PySem.W.mg_none_of X G z_int
  have b_len := PySem.W.mg_none_of X G z_len
  have b_abs := PySem.W.mg_none_of X G z_abs
  have b_max := PySem.W.mg_none_of X G z_max
  have b_range := PySem.W.mg_none_of X G z_range
  have b_min := PySem.W.mg_none_of X G z_min
  have b_isinstance := PySem.W.mg_none_of X G z_isinstance
  have b_tuple := PySem.W.mg_none_of X G z_tuple
  have b_zip := PySem.W.mg_none_of X G z_zip
  have b_enumerate := PySem.W.mg_none_of X G z_enumerate
  have b_sorted := PySem.W.mg_none_of X G z_sorted
  have b_bool := PySem.W.mg_none_of X G z_bool
  have b_str := PySem.W.mg_none_of X G z_str
  have b_sum := PySem.W.mg_none_of X G z_sum
  have b_repr := PySem.W.mg_none_of X G z_repr
  have b_all := PySem.W.mg_none_of X G z_all
  have g_MOST_REACH := (⟨⟨.int (16), .int (16) t_MOST_REACH, PySem.W.mg_of X G m_MOST_REACH, ⟨_, rfl⟩, fun F => .int _⟩⟩ : Glb K mg "MOST_REACH" (.int 16))
  have Fx_NoPaper := fun_mk (st := st_x_NoPaper) xl_NoPaper xd_NoPaper xk_NoPaper
  refine ⟨PySem.W.fnOf "law" "law" (defArgs st_law) (defBody st_law) (defScope st_law) .none kV36 dc36 pm36 an36 cd36 ct36, fun s v => .of_eq rfl, fun base _ _ hnd => ?_⟩
  have x_NoPaper : ExMk l.prog w K mg base 1 "NoPaper" C_NoPaper ["word", "number"] := mk_x_NoPaper Fx_NoPaper m_HourError he_HourError ox_NoPaper nx_NoPaper_word nx_NoPaper_number xi_NoPaper xt_NoPaper m_NoPaper (Fx_NoPaper.binds (ps := ["self", "word", "number"]) fun _ _ _ _ _ _ us hl => match us, hl with | [_, _, _], _ => rfl)
  have c_law_deck_91e6 : Cal l.prog w K mg base 1 "_law_deck" ["script"] S_deck := cal_law_deck_91e6 (k := 0) hnd D_law_deck_91e6 b_list (by rintro args Q ⟨_, rfl, _⟩; rfl) (sp_deck)
  have c_law_draw_a51a : Cal l.prog w K mg base 1 "_law_draw" ["deck", "many"] S_draw := cal_law_draw_a51a (k := 0) hnd D_law_draw_a51a b_int b_len b_abs (by rintro args Q ⟨_, _, _, rfl, _⟩; rfl) (sp_draw)
  have c_law_one_90da : Cal l.prog w K mg base 2 "_law_one" ["deck", "items"] S_one := cal_law_one_90da (k := 1) hnd D_law_one_90da (c_law_draw_a51a.mono (by first | decide | omega)) b_len (by rintro args Q ⟨_, _, _, rfl, _⟩; rfl) (sp_one)
  have c_law_clock_4333 : Cal l.prog w K mg base 3 "_law_clock" ["deck"] S_clock := cal_law_clock_4333 (k := 2) hnd D_law_clock_4333 (c_law_draw_a51a.mono (by first | decide | omega)) (c_law_one_90da.mono (by first | decide | omega)) (by rintro args Q ⟨_, _, rfl, _⟩; rfl) (sp_clock)
  have c_law_leaf_a91b : Cal l.prog w K mg base 3 "_law_leaf" ["deck", "letters"] S_leaf := cal_law_leaf_a91b (k := 2) hnd D_law_leaf_a91b (c_law_draw_a51a.mono (by first | decide | omega)) (c_law_one_90da.mono (by first | decide | omega)) (by rintro args Q ⟨_, _, _, _, rfl, _⟩; rfl) (sp_leaf)
  have c_law_formula_6b2b : ∀ d, Cal l.prog w K mg base (d + 3) "_law_formula" ["deck", "letters", "room", "deep"] (S_formula d) := fun d => by
    induction d with
    | zero => exact Cal.vac D_law_formula_6b2b S_formula0
    | succ d ih => exact cal_law_formula_6b2b (k := d + 3) hnd D_law_formula_6b2b (c_law_draw_a51a.mono (by first | decide | omega)) (c_law_leaf_a91b.mono (by first | decide | omega)) ih b_max (by rintro args Q ⟨_, _, _, _, _, _, rfl, _⟩; rfl) (sp_formula d)
  have c_law_common_ae84 : Cal l.prog w K mg base 1 "_law_common" ["one", "other"] S_common := cal_law_common_ae84 (k := 0) hnd D_law_common_ae84 b_int (by rintro args Q ⟨_, _, rfl, _⟩; rfl) (sp_law_common)
  have c_law_falling_d92b : Cal l.prog w K mg base 1 "_law_falling" ["x", "many"] S_falling := cal_law_falling_d92b (k := 0) hnd D_law_falling_d92b b_range (by rintro args Q ⟨_, _, _, rfl, _⟩; rfl) (sp_law_falling)
  have c_law_chain_f3d4 : Cal l.prog w K mg base 1 "_law_chain" ["letter", "many"] S_chain := cal_law_chain_f3d4 (k := 0) hnd D_law_chain_f3d4 b_range (by rintro args Q ⟨_, _, rfl, _⟩; rfl) (sp_law_chain)
  have c_law_near_025f : Cal l.prog w K mg base 3 "_law_near" ["deck", "formula", "clock"] S_near := cal_law_near_025f (k := 2) hnd D_law_near_025f (c_law_one_90da.mono (by first | decide | omega)) (c_law_draw_a51a.mono (by first | decide | omega)) (c_law_common_ae84.mono (by first | decide | omega)) (c_law_falling_d92b.mono (by first | decide | omega)) (c_law_chain_f3d4.mono (by first | decide | omega)) b_min b_max (by rintro args Q ⟨_, _, _, _, rfl, _⟩; rfl) (sp_near)
  have c_law_two_14d8 : Cal l.prog w K mg base 8 "_law_two" ["deck", "clock"] S_two := cal_law_two_14d8 (k := 7) hnd D_law_two_14d8 ((c_law_formula_6b2b 4).mono (by first | decide | omega)) (c_law_draw_a51a.mono (by first | decide | omega)) (c_law_one_90da.mono (by first | decide | omega)) (c_law_near_025f.mono (by first | decide | omega)) (by rintro args Q ⟨_, _, _, rfl, _⟩; rfl) (sp_two)
  have c_powered : Cal l.prog w K mg base 1 "powered" ["number", "times"] S_powered := cal_powered (k := 0) hnd D_powered b_range (by rintro args Q ⟨_, _, _, rfl, _⟩; rfl) (sp_powered)
  have c_worth : ∀ d, Cal l.prog w K mg base (d + 1) "worth" ["formula", "x", "y"] (S_worth d) := fun d => by
    induction d with
    | zero => exact Cal.vac D_worth S_worth0
    | succ d ih => exact cal_worth (k := d + 1) hnd D_worth ih (c_powered.mono (by first | decide | omega)) b_isinstance b_tuple (by rintro args Q ⟨_, _, _, _, rfl, _⟩; rfl) (sp_worth d)
  have c_parted : Cal l.prog w K mg base 19 "parted" ["one", "other", "clock"] S_parted := cal_parted (k := 18) hnd D_parted ((c_worth 17).mono (by first | decide | omega)) b_range g_MOST_REACH (by rintro args Q ⟨_, _, _, _, rfl, _⟩; rfl) (sp_parted)
  have c_differences : Cal l.prog w K mg base 1 "differences" ["items"] S_differences := cal_differences (k := 0) hnd D_differences b_zip (by rintro args Q ⟨_, rfl, _⟩; rfl) (sp_differences)
  have c_square : Cal l.prog w K mg base 19 "square" ["formula"] (S_square 17) := cal_square (k := 18) hnd D_square (c_differences.mono (by first | decide | omega)) ((c_worth 17).mono (by first | decide | omega)) b_range g_MOST_REACH (by rintro args Q ⟨_, _, rfl, _⟩; rfl) (sp_square 17)
  have c_factorial : Cal l.prog w K mg base 1 "factorial" ["number"] S_factorial := cal_factorial (k := 0) hnd D_factorial b_range (by rintro args Q ⟨_, rfl, _⟩; rfl) (sp_factorial)
  have c_rows_of : Cal l.prog w K mg base 20 "rows_of" ["formula"] (S_rows 17) := cal_rows_of (k := 19) hnd D_rows_of (c_square.mono (by first | decide | omega)) (c_factorial.mono (by first | decide | omega)) b_enumerate b_tuple (by rintro args Q ⟨_, _, rfl, _⟩; rfl) (sp_rows_of 17)
  have c_gap : Cal l.prog w K mg base 21 "gap" ["one", "other"] S_gap := cal_gap (k := 20) hnd D_gap (c_rows_of.mono (by first | decide | omega)) b_tuple b_sorted (by rintro args Q ⟨_, _, _, rfl, _⟩; rfl) (sp_gap)
  have c_common : Cal l.prog w K mg base 1 "common" ["one", "other"] S_common := cal_common (k := 0) hnd D_common (by rintro args Q ⟨_, _, rfl, _⟩; rfl) (sp_common)
  have c_step_of : Cal l.prog w K mg base 2 "step_of" ["clock", "i", "j"] S_step := cal_step_of (k := 1) hnd D_step_of (c_common.mono (by first | decide | omega)) (c_factorial.mono (by first | decide | omega)) (by rintro args Q ⟨_, _, _, rfl, _⟩; rfl) (sp_step_of)
  have c_paper : Cal l.prog w K mg base 22 "paper" ["one", "other", "clock"] S_paper := cal_paper (k := 21) hnd D_paper (c_parted.mono (by first | decide | omega)) (c_gap.mono (by first | decide | omega)) (c_step_of.mono (by first | decide | omega)) b_tuple (by rintro args Q ⟨_, _, _, _, rfl, _⟩; rfl) (sp_paper)
  have c_law_is_whole_93bd : Cal l.prog w K mg base 1 "_law_is_whole" ["value"] S_isint8 := cal_law_is_whole_93bd (k := 0) hnd D_law_is_whole_93bd b_isinstance b_bool b_int (by rintro args Q ⟨_, rfl, _⟩; rfl) (sp_whole8)
  have c_law_is_entry_6be6 : Cal l.prog w K mg base 2 "_law_is_entry" ["value"] S_entry := cal_law_is_entry_6be6 (k := 1) hnd D_law_is_entry_6be6 (c_law_is_whole_93bd.mono (by first | decide | omega)) b_len b_isinstance b_tuple (by rintro args Q ⟨_, _, rfl, _⟩; rfl) (sp_entry)
  have c_law_step_b26f : Cal l.prog w K mg base 2 "_law_step" ["clock", "i", "j"] S_step := cal_law_step_b26f (k := 1) hnd D_law_step_b26f (c_law_common_ae84.mono (by first | decide | omega)) (c_law_falling_d92b.mono (by first | decide | omega)) (by rintro args Q ⟨_, _, _, rfl, _⟩; rfl) (sp_lstep)
  have c_law_worth_98b9 : ∀ d, Cal l.prog w K mg base (d + 1) "_law_worth" ["formula", "x", "y"] (S_worth d) := fun d => by
    induction d with
    | zero => exact Cal.vac D_law_worth_98b9 S_worth0
    | succ d ih => exact cal_law_worth_98b9 (k := d + 1) hnd D_law_worth_98b9 ih b_isinstance b_str b_int b_range (by rintro args Q ⟨_, _, _, _, rfl, _⟩; rfl) (sp_law_worth d)
  have c_law_adds_up_a28d : Cal l.prog w K mg base 19 "_law_adds_up" ["one", "other", "clock", "entries"] S_adds := cal_law_adds_up_a28d (k := 18) hnd D_law_adds_up_a28d (c_law_step_b26f.mono (by first | decide | omega)) ((c_law_worth_98b9 17).mono (by first | decide | omega)) (c_law_falling_d92b.mono (by first | decide | omega)) b_range b_sum (by rintro args Q ⟨_, _, _, _, _, rfl, _⟩; rfl) (sp_adds)
  have c_law_due_4155 : Cal l.prog w K mg base 20 "_law_due" ["one", "other", "clock", "value"] S_due13 := cal_law_due_4155 (k := 19) hnd D_law_due_4155 (c_law_is_entry_6be6.mono (by first | decide | omega)) (c_law_adds_up_a28d.mono (by first | decide | omega)) (c_law_is_whole_93bd.mono (by first | decide | omega)) ((c_law_worth_98b9 17).mono (by first | decide | omega)) b_isinstance b_tuple b_repr b_len b_range (by rintro args Q ⟨_, _, _, _, _, rfl, _⟩; rfl) (sp_due13)
  have c_is_integer : Cal l.prog w K mg base 1 "is_integer" ["value"] S_isint8 := cal_is_integer (k := 0) hnd D_is_integer b_isinstance b_bool b_int (by rintro args Q ⟨_, rfl, _⟩; rfl) (sp_isint8)
  have c_is_triple : Cal l.prog w K mg base 2 "is_triple" ["value", "most"] S_tri := cal_is_triple (k := 1) hnd D_is_triple (c_is_integer.mono (by first | decide | omega)) b_all b_len b_isinstance b_tuple (by rintro args Q ⟨_, _, rfl, _⟩; rfl) (sp_tri)
  have c_check_rows_e : CalE l.prog w K mg base 22 "check_rows" ["one", "other", "clock", "rows"] (S_chkX C_NoPaper) := cal_check_rows_e (k := 21) hnd D_check_rows_e (c_is_triple.mono (by first | decide | omega)) (c_step_of.mono (by first | decide | omega)) (c_gap.mono (by first | decide | omega)) m_NoPaper x_NoPaper (by first | decide | omega) b_enumerate b_tuple g_MOST_REACH (by rintro args Q E ⟨_, _, _, _, _, rfl, _⟩; rfl) (sp_chkX C_NoPaper)
  have c_hour : Cal l.prog w K mg base 19 "hour" ["formula", "clock", "x", "y"] (S_hour 17) := cal_hour (k := 18) hnd D_hour ((c_worth 17).mono (by first | decide | omega)) (by rintro args Q ⟨_, _, _, _, _, rfl, _⟩; rfl) (sp_hour 17)
  have c_is_paper_e : CalE l.prog w K mg base 23 "is_paper" ["one", "other", "clock", "value"] (S_paperX C_NoPaper) := cal_is_paper_e (k := 22) hnd D_is_paper_e (c_check_rows_e.mono (by first | decide | omega)) (c_is_integer.mono (by first | decide | omega)) (c_hour.mono (by first | decide | omega)) m_NoPaper x_NoPaper (by first | decide | omega) b_isinstance b_str b_len b_tuple (by rintro args Q E ⟨_, _, _, _, _, rfl, _⟩; rfl) (sp_paperX C_NoPaper)
  have c_law_told_6c3d_e : Cal l.prog w K mg base 24 "_law_told" ["one", "other", "clock", "value"] S_told13 := cal_law_told_6c3d_e (k := 23) hnd D_law_told_6c3d_e (c_is_paper_e.mono (by first | decide | omega)) m_HourError m_NoPaper em_NoPaper_NoPaper xe_NoPaper ki_NoPaper_HourError xf_NoPaper nx_NoPaper_number nx_NoPaper_word b_isinstance (by rintro args Q ⟨_, _, _, _, _, rfl, _⟩; rfl) (sp_told13 C_HourError C_NoPaper)
  have c_law_bent_entries_5bbe : Cal l.prog w K mg base 3 "_law_bent_entries" ["deck", "entries"] S_bentE := cal_law_bent_entries_5bbe (k := 2) hnd D_law_bent_entries_5bbe (c_law_draw_a51a.mono (by first | decide | omega)) (c_law_is_entry_6be6.mono (by first | decide | omega)) (c_law_one_90da.mono (by first | decide | omega)) b_len b_int (by rintro args Q ⟨_, _, _, _, rfl, _⟩; rfl) (sp_bentE)
  have c_law_bent_aa32 : Cal l.prog w K mg base 4 "_law_bent" ["deck", "value"] S_bent13 := cal_law_bent_aa32 (k := 3) hnd D_law_bent_aa32 (c_law_draw_a51a.mono (by first | decide | omega)) (c_law_bent_entries_5bbe.mono (by first | decide | omega)) (c_law_one_90da.mono (by first | decide | omega)) b_isinstance b_tuple b_int b_list (by rintro args Q ⟨_, _, _, _, _, rfl, _⟩; rfl) (sp_bent13)
  exact fn_law (k := 24) hnd F_law (c_law_deck_91e6.mono (by first | decide | omega)) (c_law_clock_4333.mono (by first | decide | omega)) (c_law_two_14d8.mono (by first | decide | omega)) (c_paper.mono (by first | decide | omega)) (c_law_one_90da.mono (by first | decide | omega)) (c_law_due_4155.mono (by first | decide | omega)) (c_law_told_6c3d_e.mono (by first | decide | omega)) (c_law_bent_aa32.mono (by first | decide | omega)) b_range b_repr b_len b_isinstance b_tuple (by rintro args Q ⟨_, rfl, _⟩; rfl) (sp_law)
end DL
open PySem PySem.W PyProof.Rows
set_option maxRecDepth 100000 in
set_option maxHeartbeats 0 in
theorem PySem.Challenge.cw_hourforms_k13_papers_spoilt_holds : PySem.Challenge.rw_hourforms_k13_papers_spoilt.Holds := by
  w_on; o_law; k_head; (case hw => w_witness2)
  k_fill
  refine DL.walkG (l := PySem.Challenge.rw_hourforms_k13_papers_spoilt) (x := "script") (k := 25) rfl rfl ⟨rfl, by decide, by decide⟩ (fun w h Y => PySem.W.kIn_of Y) ?F
  case F =>
    intro w mg fa h KX G hmg
    refine' DL.all_mk KX G hmg ?aC_NoPaper ?aC_HourError ?eC_NoPaper ?tC_NoPaper ?hC_NoPaper ?kC_NoPaper ?ga_NoPaper ?gg_NoPaper ?xa_NoPaper ?xb_NoPaper ?xc_NoPaper ?xm_NoPaper ?sg_HourError ?rd_HourError ?vi_HourError ?nx_NoPaper_word ?nx_NoPaper_number ?xL_NoPaper ?xs_NoPaper ?xi_NoPaper ?xt_NoPaper ?xl_NoPaper ?xd_NoPaper ?xk_NoPaper ?su_NoPaper_NoPaper ?ki_NoPaper_HourError ?a0 ?l0 ?c0 ?k0 ?a1 ?l1 ?c1 ?k1 ?a2 ?l2 ?c2 ?k2 ?a3 ?l3 ?c3 ?k3 ?a4 ?l4 ?c4 ?k4 ?a5 ?l5 ?c5 ?k5 ?a6 ?l6 ?c6 ?k6 ?a7 ?l7 ?c7 ?k7 ?a8 ?l8 ?c8 ?k8 ?a9 ?l9 ?c9 ?k9 ?a10 ?l10 ?c10 ?k10 ?a11 ?l11 ?c11 ?k11 ?a12 ?l12 ?c12 ?k12 ?a13 ?l13 ?c13 ?k13 ?a14 ?l14 ?c14 ?k14 ?a15 ?l15 ?c15 ?k15 ?a16 ?l16 ?c16 ?k16 ?a17 ?l17 ?c17 ?k17 ?a18 ?l18 ?c18 ?k18 ?a19 ?l19 ?c19 ?k19 ?a20 ?l20 ?c20 ?k20 ?a21 ?l21 ?c21 ?k21 ?a22 ?l22 ?c22 ?k22 ?a23 ?l23 ?c23 ?k23 ?a24 ?l24 ?c24 ?k24 ?a25 ?l25 ?c25 ?k25 ?a26 ?l26 ?c26 ?k26 ?a27 ?l27 ?c27 ?k27 ?a28 ?l28 ?c28 ?k28 ?a29 ?l29 ?c29 ?k29 ?a30 ?l30 ?c30 ?k30 ?a31 ?l31 ?c31 ?k31 ?a32 ?l32 ?c32 ?k32 ?a33 ?l33 ?c33 ?k33 ?a34 ?l34 ?c34 ?k34 ?a35 ?l35 ?c35 ?k35 ?a36 ?l36 ?c36 ?k36 ?z_list ?z_int ?z_len ?z_abs ?z_max ?z_range ?z_min ?z_isinstance ?z_tuple ?z_zip ?z_enumerate ?z_sorted ?z_bool ?z_str ?z_sum ?z_repr ?z_all ?m_MOST_REACH
    (case aC_NoPaper => k_is)
    (case aC_HourError => k_is)
    (case eC_NoPaper => k_is)
    (case tC_NoPaper => k_is)
    (case hC_NoPaper => k_is)
    (case kC_NoPaper => k_is)
    (case ga_NoPaper => k_is)
    (case gg_NoPaper => k_is)
    (case xa_NoPaper => k_is)
    (case xb_NoPaper => k_is)
    (case xc_NoPaper => k_is)
    (case xm_NoPaper => k_is)
    (case sg_HourError => k_is)
    (case rd_HourError => k_is)
    (case vi_HourError => k_is)
    (case nx_NoPaper_word => k_is)
    (case nx_NoPaper_number => k_is)
    (case xL_NoPaper => k_is)
    (case xs_NoPaper => k_is)
    (case xi_NoPaper => k_is)
    (case xt_NoPaper => k_is)
    (case xl_NoPaper => k_is)
    (case xd_NoPaper => k_is)
    (case xk_NoPaper => k_is)
    (case su_NoPaper_NoPaper => k_is)
    (case ki_NoPaper_HourError => kit_is)
    (case a0 => k_is)
    (case l0 => k_is)
    (case c0 => k_is)
    (case k0 => k_is)
    (case a1 => k_is)
    (case l1 => k_is)
    (case c1 => k_is)
    (case k1 => k_is)
    (case a2 => k_is)
    (case l2 => k_is)
    (case c2 => k_is)
    (case k2 => k_is)
    (case a3 => k_is)
    (case l3 => k_is)
    (case c3 => k_is)
    (case k3 => k_is)
    (case a4 => k_is)
    (case l4 => k_is)
    (case c4 => k_is)
    (case k4 => k_is)
    (case a5 => k_is)
    (case l5 => k_is)
    (case c5 => k_is)
    (case k5 => k_is)
    (case a6 => k_is)
    (case l6 => k_is)
    (case c6 => k_is)
    (case k6 => k_is)
    (case a7 => k_is)
    (case l7 => k_is)
    (case c7 => k_is)
    (case k7 => k_is)
    (case a8 => k_is)
    (case l8 => k_is)
    (case c8 => k_is)
    (case k8 => k_is)
    (case a9 => k_is)
    (case l9 => k_is)
    (case c9 => k_is)
    (case k9 => k_is)
    (case a10 => k_is)
    (case l10 => k_is)
    (case c10 => k_is)
    (case k10 => k_is)
    (case a11 => k_is)
    (case l11 => k_is)
    (case c11 => k_is)
    (case k11 => k_is)
    (case a12 => k_is)
    (case l12 => k_is)
    (case c12 => k_is)
    (case k12 => k_is)
    (case a13 => k_is)
    (case l13 => k_is)
    (case c13 => k_is)
    (case k13 => k_is)
    (case a14 => k_is)
    (case l14 => k_is)
    (case c14 => k_is)
    (case k14 => k_is)
    (case a15 => k_is)
    (case l15 => k_is)
    (case c15 => k_is)
    (case k15 => k_is)
    (case a16 => k_is)
    (case l16 => k_is)
    (case c16 => k_is)
    (case k16 => k_is)
    (case a17 => k_is)
    (case l17 => k_is)
    (case c17 => k_is)
    (case k17 => k_is)
    (case a18 => k_is)
    (case l18 => k_is)
    (case c18 => k_is)
    (case k18 => k_is)
    (case a19 => k_is)
    (case l19 => k_is)
    (case c19 => k_is)
    (case k19 => k_is)
    (case a20 => k_is)
    (case l20 => k_is)
    (case c20 => k_is)
    (case k20 => k_is)
    (case a21 => k_is)
    (case l21 => k_is)
    (case c21 => k_is)
    (case k21 => k_is)
    (case a22 => k_is)
    (case l22 => k_is)
    (case c22 => k_is)
    (case k22 => k_is)
    (case a23 => k_is)
    (case l23 => k_is)
    (case c23 => k_is)
    (case k23 => k_is)
    (case a24 => k_is)
    (case l24 => k_is)
    (case c24 => k_is)
    (case k24 => k_is)
    (case a25 => k_is)
    (case l25 => k_is)
    (case c25 => k_is)
    (case k25 => k_is)
    (case a26 => k_is)
    (case l26 => k_is)
    (case c26 => k_is)
    (case k26 => k_is)
    (case a27 => k_is)
    (case l27 => k_is)
    (case c27 => k_is)
    (case k27 => k_is)
    (case a28 => k_is)
    (case l28 => k_is)
    (case c28 => k_is)
    (case k28 => k_is)
    (case a29 => k_is)
    (case l29 => k_is)
    (case c29 => k_is)
    (case k29 => k_is)
    (case a30 => k_is)
    (case l30 => k_is)
    (case c30 => k_is)
    (case k30 => k_is)
    (case a31 => k_is)
    (case l31 => k_is)
    (case c31 => k_is)
    (case k31 => k_is)
    (case a32 => k_is)
    (case l32 => k_is)
    (case c32 => k_is)
    (case k32 => k_is)
    (case a33 => k_is)
    (case l33 => k_is)
    (case c33 => k_is)
    (case k33 => k_is)
    (case a34 => k_is)
    (case l34 => k_is)
    (case c34 => k_is)
    (case k34 => k_is)
    (case a35 => k_is)
    (case l35 => k_is)
    (case c35 => k_is)
    (case k35 => k_is)
    (case a36 => k_is)
    (case l36 => k_is)
    (case c36 => k_is)
    (case k36 => k_is)
    (case z_list => k_is)
    (case z_int => k_is)
    (case z_len => k_is)
    (case z_abs => k_is)
    (case z_max => k_is)
    (case z_range => k_is)
    (case z_min => k_is)
    (case z_isinstance => k_is)
    (case z_tuple => k_is)
    (case z_zip => k_is)
    (case z_enumerate => k_is)
    (case z_sorted => k_is)
    (case z_bool => k_is)
    (case z_str => k_is)
    (case z_sum => k_is)
    (case z_repr => k_is)
    (case z_all => k_is)
    (case m_MOST_REACH => k_is)
