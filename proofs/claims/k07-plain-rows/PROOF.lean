import PyProof.Rows.All
import Wide.All
import OpenK.AllK
import Wide.FinOn
import HandS.ForMost
import HandS.Wide
import HandS.IsInst
import HandS.TupAny
import HandS.TupLe
import HandS.TupMul
import HandS.SortInts
import HandS.Style
import HandS.NoneIn
import HandS.Zip
import PyProof.Rows.Digits
import PyProof.ReprRoads
import PyProof.Rows.StrOr
import HandS.Dict
import HandS.Conv
import HandS.TupSets
import HandS.Keys
import KE.KTupSum
import HandS.More
import HandS.TupLen
import PyProof.Rows.TupAdd
import KE.GoesEnum
import HandS.Star
import HandS.Defaults
import HandS.SetFor
import HandS.Strs
import KE.KOpsOwn
import KE.KFmtOwn
import HandS.OwnEq
import PyProof.TwoTypes
import KE.GoesZip
import KE.GoesMore
import HandS.SortOrd
import HandS.SortRule
import HandS.WordsDict
import HandS.Exc
import HandS.ExcInit
import HandS.ExcField
import HandS.ExcIs
import HandS.ExcOwn
import HandS.Lambda
import HandS.TryMany
import HandS.DictComp
import KE.DataMinMax
import PyProof.Rows.CallKwBuiltin
import HandS.Iter
import PySem.Challenge.RW_hourforms_k07_plain_rows
set_option Elab.async false
set_option linter.all false
set_option maxRecDepth 100000
set_option maxHeartbeats 1000000
set_option autoImplicit false
namespace DL
open PySem L2
abbrev PD := PyData
def keyD : Key → PD
  | .inl i => .int i
  | .inr s => .str s
theorem seqT {K : PySem.W.Frag} {H H' : Hp} {a : Addr} {xs : List V} (e : Same H H') (h : SqT K H a xs) : SqT K H' a xs := by
  rcases h with (h | ⟨o, h⟩) | h
  · exact .inl (.inl (e _ _ h))
  · exact .inl (.inr ⟨o, e _ _ h⟩)
  · exact .inr h
theorem rdM {H H' : Hp} {a : Addr} {u : HO} (e : Same H H') (h : Rd H a u) : Rd H' a u := by
  rcases h with h | ⟨o, h⟩
  · exact .inl (e _ _ h)
  · exact .inr ⟨o, e _ _ h⟩
mutual
/-- the value v stands, in H, for the data d -/
inductive Df (K : PySem.W.Frag) (H : Hp) : V → PD → Prop
  | non : Df K H .non .none
  | bl (b : Bool) : Df K H (.bl b) (.bool b)
  | int (i : Int) : Df K H (.int i) (.int i)
  | str (x : Str) : Df K H (.str x) (.str x)
  | lst {a : Addr} {xs : List V} {ds : List PD} : Rd H a (.lst xs) → DfA K H xs ds → Df K H (.ref a) (.list ds)
  | tup {a : Addr} {xs : List V} {ds : List PD} : SqT K H a xs → DfA K H xs ds → Df K H (.ref a) (.tuple ds)
  | dk {a : Addr} {kvs : List (Key × V)} {es : List (PD × PD)} : Rd H a (.dK kvs) → DfK K H kvs es → Df K H (.ref a) (.dict es)
  | ins {a C dx : Addr} {fs : List (Str × V)} {es : List (PD × PD)} : H a = some (.ins C dx fs) → DfF K H fs es → Df K H (.ref a) (.dict ((.none, .int (C : Int)) :: es))
  /-- a caught error of the class at C without attributes -/
  | ex0 {a C : Addr} : Df K H (.ref a) (.dict [(.bool true, .int (C : Int)), (.bool true, .int (a : Int)), (.bool true, .none)])
  /-- .. its attributes at dd -/
  | ex1 {a C dd : Addr} {fs : List (Str × V)} {es : List (PD × PD)} : H dd = some (.xd fs) → DfF K H fs es → Df K H (.ref a) (.dict ((.bool true, .int (C : Int)) :: (.bool true, .int (a : Int)) :: (.bool true, .int (dd : Int)) :: es))
  /-- a locked dict -/
  | dkL {a : Addr} {o : Obj} {kvs : List (Key × V)} {es : List (PD × PD)} : H a = some (.frz o (.dK kvs)) → DfK K H kvs es → Df K H (.ref a) (.dict ((.bool false, .none) :: es))
  /-- a tuple that is a key of an own dict, or may be one -/
  | ky {a : Addr} {ks : List Key} : H a = some (.tup (ks.map kV)) → Df K H (.ref a) (.dict [(.bool false, .tuple (ks.map keyD))])
inductive DfA (K : PySem.W.Frag) (H : Hp) : List V → List PD → Prop
  | nil : DfA K H [] []
  | cons {v : V} {vs : List V} {d : PD} {ds : List PD} : Df K H v d → DfA K H vs ds → DfA K H (v :: vs) (d :: ds)
inductive DfK (K : PySem.W.Frag) (H : Hp) : List (Key × V) → List (PD × PD) → Prop
  | nil : DfK K H [] []
  | cons {k : Key} {v : V} {vs : List (Key × V)} {d : PD} {ds : List (PD × PD)} : Df K H v d → DfK K H vs ds → DfK K H ((k, v) :: vs) ((keyD k, d) :: ds)
inductive DfF (K : PySem.W.Frag) (H : Hp) : List (Str × V) → List (PD × PD) → Prop
  | nil : DfF K H [] []
  | cons {k : Str} {v : V} {vs : List (Str × V)} {d : PD} {ds : List (PD × PD)} : Df K H v d → DfF K H vs ds → DfF K H ((k, v) :: vs) ((.str k, d) :: ds)
end
section
variable {K : PySem.W.Frag} {H H' F F' : Hp} {v : V} {d : PD} {vs : List V} {ds : List PD}
theorem Df.mono (e : Same H H') (h : Df K H v d) : Df K H' v d :=
  Df.rec (motive_1 := fun v d _ => Df K H' v d) (motive_2 := fun vs ds _ => DfA K H' vs ds) (motive_3 := fun vs ds _ => DfK K H' vs ds) (motive_4 := fun vs ds _ => DfF K H' vs ds)
    .non .bl .int .str (fun h _ ih => .lst (rdM e h) ih) (fun h _ ih => .tup (seqT e h) ih) (fun h _ ih => .dk (rdM e h) ih) (fun h _ ih => .ins (e _ _ h) ih) .ex0 (fun h _ ih => .ex1 (e _ _ h) ih) (fun h _ ih => .dkL (e _ _ h) ih) (fun h => .ky (e _ _ h))
    .nil (fun _ _ a b => .cons a b) .nil (fun _ _ a b => .cons a b) .nil (fun _ _ a b => .cons a b) h
theorem DfA.mono (e : Same H H') (h : DfA K H vs ds) : DfA K H' vs ds := by
  induction vs generalizing ds with
  | nil => cases h; exact .nil
  | cons v vs ih =>
    cases h with
    | cons a b => exact .cons (a.mono e) (ih b)
theorem DfK.mono {vs : List (Key × V)} {ds : List (PD × PD)} (e : Same H H') (h : DfK K H vs ds) : DfK K H' vs ds := by
  induction vs generalizing ds with
  | nil => cases h; exact .nil
  | cons v vs ih =>
    cases h with
    | cons a b => exact .cons (a.mono e) (ih b)
theorem DfF.mono {vs : List (Str × V)} {ds : List (PD × PD)} (e : Same H H') (h : DfF K H vs ds) : DfF K H' vs ds := by
  induction vs generalizing ds with
  | nil => cases h; exact .nil
  | cons v vs ih =>
    cases h with
    | cons a b => exact .cons (a.mono e) (ih b)
theorem DfA.length (h : DfA K H vs ds) : vs.length = ds.length := by
  induction vs generalizing ds with
  | nil => cases h; rfl
  | cons v vs ih =>
    cases h with
    | cons a b => rw [List.length_cons, List.length_cons, ih b]
theorem DfA.append {us : List V} {es : List PD} (h : DfA K H vs ds) (g : DfA K H us es) : DfA K H (vs ++ us) (ds ++ es) := by
  induction vs generalizing ds with
  | nil => cases h; exact g
  | cons v vs ih =>
    cases h with
    | cons a b => exact .cons a (ih b)
theorem DfA.get {i : Nat} (h : DfA K H vs ds) (e : ds[i]? = some d) : ∃ v, vs[i]? = some v ∧ Df K H v d := by
  induction vs generalizing ds i with
  | nil => cases h; simp at e
  | cons v vs ih =>
    cases h with
    | cons a b =>
      cases i with
      | zero => simp at e; subst e; exact ⟨v, rfl, a⟩
      | succ i => simp at e; obtain ⟨u, h1, h2⟩ := ih b e; exact ⟨u, by simpa using h1, h2⟩
theorem DfA.get' {i : Nat} (h : DfA K H vs ds) (e : vs[i]? = some v) : ∃ d, ds[i]? = some d ∧ Df K H v d := by
  induction vs generalizing ds i with
  | nil => simp at e
  | cons u vs ih =>
    cases h with
    | cons a b =>
      cases i with
      | zero => simp at e; subst e; exact ⟨_, rfl, a⟩
      | succ i => simp at e; obtain ⟨u, h1, h2⟩ := ih b e; exact ⟨u, by simpa using h1, h2⟩
theorem DfA.take (n : Nat) (h : DfA K H vs ds) : DfA K H (vs.take n) (ds.take n) := by
  induction vs generalizing ds n with
  | nil => cases h; simp; exact .nil
  | cons v vs ih =>
    cases h with
    | cons a b =>
      cases n with
      | zero => exact .nil
      | succ n => exact .cons a (ih n b)
theorem DfA.drop (n : Nat) (h : DfA K H vs ds) : DfA K H (vs.drop n) (ds.drop n) := by
  induction vs generalizing ds n with
  | nil => cases h; simp; exact .nil
  | cons v vs ih =>
    cases h with
    | cons a b =>
      cases n with
      | zero => exact .cons a b
      | succ n => exact ih n b
theorem DfA.set (i : Nat) (h : DfA K H vs ds) (g : Df K H v d) : DfA K H (vs.set i v) (ds.set i d) := by
  induction vs generalizing ds i with
  | nil => cases h; exact .nil
  | cons v vs ih =>
    cases h with
    | cons a b =>
      cases i with
      | zero => exact .cons g b
      | succ i => exact .cons a (ih i b)
theorem DfA.snoc (h : DfA K H vs ds) (g : Df K H v d) : DfA K H (vs ++ [v]) (ds ++ [d]) := h.append (.cons g .nil)
theorem DfA.replicate (n : Nat) (g : DfA K H vs ds) : DfA K H (List.replicate n vs).flatten (List.replicate n ds).flatten := by
  induction n with
  | zero => exact .nil
  | succ n ih => rw [List.replicate_succ, List.replicate_succ, List.flatten_cons, List.flatten_cons]; exact g.append ih
theorem DfA.ints (ns : List Int) : DfA K H (ns.map V.int) (ns.map PyData.int) := by
  induction ns with
  | nil => exact .nil
  | cons n r ih => exact .cons (.int n) ih
end
mutual
def noDict : PD → Bool
  | .dict _ => false
  | .list xs => noDictA xs
  | .tuple xs => noDictA xs
  | _ => true
def noDictA : List PD → Bool
  | [] => true
  | x :: r => noDict x && noDictA r
end
section
variable {K : PySem.W.Frag} {H : Hp}
theorem Df.dp {v : V} {d : PD} (h : Df K H v d) : noDict d = true → Dp K H v d :=
  Df.rec (motive_1 := fun v d _ => noDict d = true → Dp K H v d) (motive_2 := fun vs ds _ => noDictA ds = true → DpAll K H vs ds) (motive_3 := fun _ _ _ => True) (motive_4 := fun _ _ _ => True)
    (fun _ => .non) (fun b _ => .bl b) (fun i _ => .int i) (fun x _ => .str x) (fun h _ ih e => .lst (.inl h) (ih (by simpa [noDict] using e))) (fun h _ ih e => .tup h (ih (by simpa [noDict] using e)))
    (fun _ _ _ e => by simp [noDict] at e) (fun _ _ _ e => by simp [noDict] at e) (fun e => by simp [noDict] at e) (fun _ _ _ e => by simp [noDict] at e) (fun _ _ _ e => by simp [noDict] at e) (fun _ e => by simp [noDict] at e)
    (fun _ => .nil) (fun _ _ a b e => by simp [noDictA] at e; exact .cons (a e.1) (b e.2)) trivial (fun _ _ _ _ => trivial) trivial (fun _ _ _ _ => trivial) h
end
inductive Lc where
  | d (x : PD)
  | ls (p : Option Nat) (xs : List PD)
  | dk (p : Option Nat) (kvs : List (Key × PD))
  | dt (p : Option Nat) (kvs : List (List Key × PD))
  /-- an own instance of the class at C, its attributes -/
  | ob (p : Option Nat) (C : Addr) (fs : List (Str × PD))
  /-- a list that is only read: the script -/
  | sc (xs : List PD)
  /-- an own instance of the class at C: attributes that are data, and behind them own lists of its own, each with its address -/
  | nb (p : Option Nat) (C : Addr) (fs : List (Str × PD)) (ns : List (Str × Addr × List PD))
  /-- an own list of own lists of its own, each with its address -/
  | ln (p : Option Nat) (xs : List (Addr × List PD))
def Lc.fp : Lc → List (Addr × List PD)
  | .nb _ _ _ ns => ns.map (·.2)
  | .ln _ xs => xs
  | _ => []
abbrev En := List (Option Lc)
def Lc.own : Lc → Bool
  | .ls _ _ => true
  | .dk _ _ => true
  | .dt _ _ => true
  | .ob _ _ _ => true
  | .nb _ _ _ _ => true
  | .ln _ _ => true
  | _ => false
def Lc.tag : Lc → Option Nat
  | .ls p _ => p
  | .dk p _ => p
  | .dt p _ => p
  | .ob p _ _ => p
  | .nb p _ _ _ => p
  | .ln p _ => p
  | _ => none
def Lc.retag (q : Option Nat) : Lc → Lc
  | .ls _ xs => .ls q xs
  | .dk _ xs => .dk q xs
  | .dt _ xs => .dt q xs
  | .ob _ C fs => .ob q C fs
  | .nb _ C fs ns => .nb q C fs ns
  | .ln _ xs => .ln q xs
  | l => l
theorem Lc.retag_fp (q : Option Nat) (l : Lc) : (l.retag q).fp = l.fp := by cases l <;> rfl
def getN (f : Str) : List (Str × Addr × List PD) → Option (Addr × List PD)
  | [] => none
  | (g, z) :: r => if g = f then some z else getN f r
def noF (f : Str) : List (Str × PD) → Bool
  | [] => true
  | (g, _) :: r => !(decide (g = f)) && noF f r
theorem getN_mem {f : Str} {y : Addr × List PD} : ∀ {ns : List (Str × Addr × List PD)}, getN f ns = some y → (f, y) ∈ ns
  | (g, z) :: r, h => by
    unfold getN at h
    by_cases e : g = f
    · rw [if_pos e] at h; cases h; rw [e]; exact List.mem_cons_self
    · rw [if_neg e] at h; exact List.mem_cons_of_mem _ (getN_mem h)
theorem Lc.retag_own (q : Option Nat) (l : Lc) : (l.retag q).own = l.own := by cases l <;> rfl
theorem Lc.retag_tag (q : Option Nat) (l : Lc) (h : l.own = true) : (l.retag q).tag = q := by cases l <;> first | rfl | (simp [Lc.own] at h)
structure Gm where
  H0 : Hp
  F0 : Hp
  io : List Addr
  nio : List (Nat × Addr) := []
def Gm.pin (G : Gm) (p : Addr) (o : HO) : Gm := { G with H0 := fun b => if b = p then some o else G.H0 b }
class Pn where
  P : Gm → Prop
  pin : ∀ {G : Gm} {p : Addr} {o : HO}, P G → G.H0 p = none → G.F0 p = none → p ∉ G.io → (∀ us, o ≠ .tup us) → P (G.pin p o)
def Pn.any : Pn := ⟨fun _ => True, fun _ _ _ _ _ => trivial⟩
inductive Pins (G0 : Gm) : Gm → Prop
  | refl : Pins G0 G0
  | pin {G : Gm} {p : Addr} {o : HO} : Pins G0 G → G.H0 p = none → G.F0 p = none → p ∉ G.io → (∀ us, o ≠ .tup us) → Pins G0 (G.pin p o)
def Pn.at_ (G0 : Gm) : Pn := ⟨Pins G0, .pin⟩
def DKv {κ : Type} (K : PySem.W.Frag) (F : Hp) : List (κ × V) → List (κ × PD) → Prop := Paired fun p q => p.1 = q.1 ∧ Df K F p.2 q.2
def HoOk (K : PySem.W.Frag) (F : Hp) : Lc → HO → Prop
  | .ls _ xs, .lst vs => DfA K F vs xs
  | .dk _ kvs, .dK us => DKv K F us kvs
  | .dt _ kvs, .dT us => DKv K F us kvs
  | .ob _ C fs, .ins D _ us => C = D ∧ DKv K F us fs
  | .nb _ C fs ns, .ins D _ us => C = D ∧ (∃ u1, us = u1 ++ ns.map (fun n => (n.1, V.ref n.2.1)) ∧ DKv K F u1 fs) ∧ (ns.map (·.2.1)).Nodup
  | .ln _ xs, .lst vs => vs = xs.map (fun x => V.ref x.1) ∧ (xs.map (·.1)).Nodup
  | _, _ => False
theorem DKv.mono {κ : Type} {K : PySem.W.Frag} {F F' : Hp} (e : Same F F') {us : List (κ × V)} {kvs : List (κ × PD)} (h : DKv K F us kvs) : DKv K F' us kvs :=
  Paired.mapP h fun _ _ z => ⟨z.1, z.2.mono e⟩
theorem HoOk.mono {K : PySem.W.Frag} {F F' : Hp} {l : Lc} {o : HO} (e : Same F F') (h : HoOk K F l o) : HoOk K F' l o := by
  cases l <;> cases o <;> first | exact False.elim h | exact DfA.mono e h | exact DKv.mono e h | exact ⟨h.1, DKv.mono e h.2⟩ | exact ⟨h.1, ⟨h.2.1.choose, h.2.1.choose_spec.1, DKv.mono e h.2.1.choose_spec.2⟩, h.2.2⟩ | exact h
theorem HoOk.retag {K : PySem.W.Frag} {F : Hp} {l : Lc} {o : HO} (q : Option Nat) (h : HoOk K F l o) : HoOk K F (l.retag q) o := by
  cases l <;> cases o <;> first | exact False.elim h | exact h
theorem HoOk.own {K : PySem.W.Frag} {F : Hp} {l : Lc} {o : HO} (h : HoOk K F l o) : l.own = true := by
  cases l <;> cases o <;> first | exact False.elim h | rfl
def OwnP (G : Gm) : Option Nat → Addr → Prop
  | none, a => G.H0 a = none
  | some i, a => G.io[i]? = some a
structure At (K : PySem.W.Frag) (G : Gm) (F H : Hp) (l : Lc) (a : Addr) : Prop where
  nf : F a = none
  ow : OwnP G l.tag a
  ob : ∃ o, H a = some o ∧ HoOk K F l o
def ScOk (K : PySem.W.Frag) (F : Hp) (xs : List PD) (v : V) : Prop := ∃ a vs, v = .ref a ∧ SqL K F a vs ∧ DfA K F vs xs
theorem ScOk.mono {K : PySem.W.Frag} {F F' : Hp} {xs : List PD} {v : V} (e : Same F F') (h : ScOk K F xs v) : ScOk K F' xs v := by
  obtain ⟨a, vs, h1, h2, h3⟩ := h
  exact ⟨a, vs, h1, e.seq h2, h3.mono e⟩
def SlotOk (K : PySem.W.Frag) (G : Gm) (F H : Hp) : Lc → Option (Option V) → Prop
  | .d x, s => ∃ v, s = some (some v) ∧ Df K F v x
  | .sc xs, s => ∃ v, s = some (some v) ∧ ScOk K F xs v
  | l, s => ∃ a, s = some (some (.ref a)) ∧ At K G F H l a
structure Ns (K : PySem.W.Frag) (G : Gm) (F H : Hp) (t : Option Nat) (b : Addr) (xs : List PD) : Prop where
  nf : F b = none
  ow : G.H0 b = none ∨ ∃ k, t = some k ∧ (k, b) ∈ G.nio ∧ b ∈ G.io
  ob : ∃ vs, H b = some (.lst vs) ∧ DfA K F vs xs
def NoN (ρ : En) (p : Addr) : Prop := ∀ (j : Nat) (m : Lc) (ys : List PD), ρ[j]? = some (some m) → (p, ys) ∉ m.fp
def NoS (ρ : En) (σ : L2.St) (p : Addr) : Prop := ∀ (j : Nat) (m : Lc), ρ[j]? = some (some m) → m.own = true → σ[j]? ≠ some (some (.ref p))
structure Rel [Pn] (K : PySem.W.Frag) (G : Gm) (ρ : En) (F : Hp) (σ : L2.St) (H : Hp) : Prop where
  fh : Same F H
  ff : Same G.F0 F
  fr : ∀ b o, G.H0 b = some o → b ∉ G.io → H b = some o
  nw : ∀ b, F b ≠ none → G.F0 b = none → G.H0 b = none ∨ ∃ us, F b = some (.tup us)
  ih : ∀ a, a ∈ G.io → H a ≠ none ∧ G.H0 a ≠ none
  len : σ.length = ρ.length
  sl : ∀ (i : Nat) (l : Lc), ρ[i]? = some (some l) → SlotOk K G F H l σ[i]?
  ds : ∀ (i j : Nat) (l m : Lc) (v : V), ρ[i]? = some (some l) → ρ[j]? = some (some m) → l.own = true → m.own = true → σ[i]? = some (some v) → σ[j]? = some (some v) → i = j
  ok : Pn.P G
  ns : ∀ (i : Nat) (l : Lc) (b : Addr) (xs : List PD), ρ[i]? = some (some l) → (b, xs) ∈ l.fp → Ns K G F H l.tag b xs ∧ ∀ (j : Nat) (m : Lc), ρ[j]? = some (some m) → (m.own = true → σ[j]? ≠ some (some (.ref b))) ∧ ∀ ys, (b, ys) ∈ m.fp → j = i
structure Grow (F H F' H' : Hp) : Prop where
  ff : Same F F'
  hh : Same H H'
  fh : Same F' H'
  nw : ∀ b, F' b ≠ none → F b = none → H b = none ∨ ∃ us, F' b = some (.tup us)
section
variable {K : PySem.W.Frag} {G : Gm} {ρ : En} {F F' H H' F1 H1 : Hp} {σ : L2.St} {i j : Nat} {l m : Lc} {a p : Addr} {v : V} {x : PD} {o : HO}
theorem Grow.refl (h : Same F H) : Grow F H F H := ⟨Same.refl _, Same.refl _, h, fun b h1 h2 => absurd h2 h1⟩
theorem Grow.trans (g : Grow F H F1 H1) (k : Grow F1 H1 F' H') : Grow F H F' H' := by
  refine ⟨g.ff.trans k.ff, g.hh.trans k.hh, k.fh, fun b h1 h2 => ?_⟩
  cases e : F1 b with
  | none =>
    rcases k.nw b h1 e with z | z
    · exact .inl (g.hh.free z)
    · exact .inr z
  | some u =>
    rcases g.nw b (by rw [e]; simp) h2 with z | ⟨us, z⟩
    · exact .inl z
    · exact .inr ⟨us, k.ff _ _ z⟩
theorem same_new (h : H p = none) (o : HO) : Same H (upd H p o) := fun b u q => by rw [upd_ne (ne_of_none q h)]; exact q
theorem Grow.frozen (h : Same F H) (hp : H p = none) (o : HO) : Grow F H (upd F p o) (upd H p o) := by
  refine ⟨same_new (h.free hp) o, same_new hp o, fun b u e => ?_, fun b h1 h2 => ?_⟩
  · by_cases hb : b = p
    · subst hb; rw [upd_same] at e ⊢; exact e
    · rw [upd_ne hb] at e ⊢; exact h _ _ e
  · by_cases hb : b = p
    · subst hb; exact .inl hp
    · rw [upd_ne hb] at h1; exact absurd h2 h1
theorem Grow.owned (h : Same F H) (hp : H p = none) (o : HO) : Grow F H F (upd H p o) :=
  ⟨Same.refl _, same_new hp o, h.trans (same_new hp o), fun b h1 h2 => absurd h2 h1⟩
theorem own_slot (h : l.own = true) {s : Option (Option V)} : SlotOk K G F H l s ↔ ∃ a, s = some (some (.ref a)) ∧ At K G F H l a := by
  cases l <;> first | exact Iff.rfl | (simp [Lc.own] at h)
theorem not_own (h : l.own = false) : (∃ x, l = .d x) ∨ ∃ x, l = .sc x := by
  cases l with
  | d x => exact .inl ⟨x, rfl⟩
  | sc v => exact .inr ⟨v, rfl⟩
  | ls p xs => simp [Lc.own] at h
  | dk p xs => simp [Lc.own] at h
  | dt p xs => simp [Lc.own] at h
  | ob p C fs => simp [Lc.own] at h
  | nb p C fs ns => simp [Lc.own] at h
  | ln p xs => simp [Lc.own] at h
theorem Lc.fp_own (h : l.own = false) : l.fp = [] := by cases l <;> first | rfl | (simp [Lc.own] at h)
theorem SlotOk.some {s : Option (Option V)} (h : SlotOk K G F H l s) : ∃ v, s = some (some v) := by
  cases l with
  | d x => obtain ⟨v, e, _⟩ := h; exact ⟨v, e⟩
  | sc xs => obtain ⟨v, e, _⟩ := h; exact ⟨v, e⟩
  | ls p xs => obtain ⟨a, e, _⟩ := h; exact ⟨_, e⟩
  | dk p xs => obtain ⟨a, e, _⟩ := h; exact ⟨_, e⟩
  | dt p xs => obtain ⟨a, e, _⟩ := h; exact ⟨_, e⟩
  | ob p C fs => obtain ⟨a, e, _⟩ := h; exact ⟨_, e⟩
  | nb p C fs ns => obtain ⟨a, e, _⟩ := h; exact ⟨_, e⟩
  | ln p xs => obtain ⟨a, e, _⟩ := h; exact ⟨_, e⟩
theorem At.grow (h : At K G F H l a) (g : Grow F H F' H') : At K G F' H' l a := by
  obtain ⟨nf, ow, ob, e, ok⟩ := h
  refine ⟨?_, ow, ob, g.hh _ _ e, ok.mono g.ff⟩
  cases q : F' a with
  | none => rfl
  | some u =>
    rcases g.nw a (by rw [q]; simp) nf with z | ⟨us, z⟩
    · rw [e] at z; cases z
    · have z := g.fh _ _ z
      rw [g.hh _ _ e] at z
      cases z
      cases l <;> exact False.elim ok
theorem Ns.grow {t : Option Nat} {b : Addr} {xs : List PD} (h : Ns K G F H t b xs) (g : Grow F H F' H') : Ns K G F' H' t b xs := by
  obtain ⟨nf, ow, vs, e, ok⟩ := h
  refine ⟨?_, ow, vs, g.hh _ _ e, ok.mono g.ff⟩
  cases q : F' b with
  | none => rfl
  | some u =>
    rcases g.nw b (by rw [q]; simp) nf with z | ⟨us, z⟩
    · rw [e] at z; cases z
    · have z := g.fh _ _ z
      rw [g.hh _ _ e] at z
      cases z
theorem SlotOk.grow {s : Option (Option V)} (h : SlotOk K G F H l s) (g : Grow F H F' H') : SlotOk K G F' H' l s := by
  cases hl : l.own with
  | true => rw [own_slot hl] at h ⊢; obtain ⟨a, e, z⟩ := h; exact ⟨a, e, z.grow g⟩
  | false =>
    rcases not_own hl with ⟨x, rfl⟩ | ⟨v, rfl⟩
    · obtain ⟨v, e, z⟩ := h; exact ⟨v, e, z.mono g.ff⟩
    · obtain ⟨v, e, z⟩ := h; exact ⟨v, e, z.mono g.ff⟩
theorem Rel.h0 [Pn] (R : Rel K G ρ F σ H) (h : H p = none) : G.H0 p = none := by
  cases e : G.H0 p with
  | none => rfl
  | some u =>
    by_cases hp : p ∈ G.io
    · exact absurd h (R.ih p hp).1
    · have := R.fr p u e hp; rw [h] at this; cases this
theorem Rel.grow [Pn] (R : Rel K G ρ F σ H) (g : Grow F H F' H') : Rel K G ρ F' σ H' := by
  refine ⟨g.fh, R.ff.trans g.ff, fun b o e hb => g.hh _ _ (R.fr b o e hb), fun b h1 h2 => ?_, fun a ha => ?_, R.len, fun i l e => (R.sl i l e).grow g, R.ds, R.ok, fun i l b xs e h => ⟨(R.ns i l b xs e h).1.grow g, (R.ns i l b xs e h).2⟩⟩
  · cases e : F b with
    | none =>
      rcases g.nw b h1 e with z | z
      · exact .inl (R.h0 z)
      · exact .inr z
    | some u =>
      rcases R.nw b (by rw [e]; simp) h2 with z | ⟨us, z⟩
      · exact .inl z
      · exact .inr ⟨us, g.ff _ _ z⟩
  · refine ⟨?_, (R.ih a ha).2⟩
    cases e : H a with
    | none => exact absurd e (R.ih a ha).1
    | some u => rw [g.hh _ _ e]; simp
theorem set_get {α : Type} {xs : List α} {i j : Nat} {y z : α} (h : (xs.set i y)[j]? = some z) : (j = i ∧ i < xs.length ∧ z = y) ∨ (j ≠ i ∧ xs[j]? = some z) := by
  by_cases hj : j = i
  · subst hj
    by_cases hl : j < xs.length
    · rw [List.getElem?_set_self hl] at h; cases h; exact .inl ⟨rfl, hl, rfl⟩
    · rw [List.getElem?_eq_none (by rw [List.length_set]; omega)] at h; cases h
  · rw [List.getElem?_set_ne (Ne.symm hj)] at h; exact .inr ⟨hj, h⟩
def NsR (K : PySem.W.Frag) (G : Gm) (F H : Hp) (ρ : En) (σ : L2.St) (l : Lc) (v : V) : Prop := ∀ (b : Addr) (xs : List PD), (b, xs) ∈ l.fp → Ns K G F H l.tag b xs ∧ v ≠ .ref b ∧ NoS ρ σ b ∧ NoN ρ b
theorem NsR.nil {v : V} (h : l.fp = []) : NsR K G F H ρ σ l v := fun b xs z => by rw [h] at z; cases z
theorem Rel.store [Pn] (R : Rel K G ρ F σ H) (i : Nat) (h : SlotOk K G F H l (some (some v))) (hf : l.own = true → ∀ (j : Nat) (m : Lc), ρ[j]? = some (some m) → m.own = true → σ[j]? ≠ some (some v)) (hn : l.own = true → (∀ a, v = .ref a → NoN ρ a) ∧ NsR K G F H ρ σ l v) :
    Rel K G (ρ.set i (some l)) F (σ.set i (some v)) H := by
  have hfp : ∀ b xs, (b, xs) ∈ l.fp → l.own = true := fun b xs z => by
    cases ho : l.own with
    | true => rfl
    | false => rw [Lc.fp_own ho] at z; cases z
  refine ⟨R.fh, R.ff, R.fr, R.nw, R.ih, by rw [List.length_set, List.length_set]; exact R.len, fun j m e => ?_, fun j k m n u e1 e2 h1 h2 e3 e4 => ?_, R.ok, fun j m b xs e hb => ?_⟩
  · rcases set_get e with ⟨rfl, hl, z⟩ | ⟨hj, e⟩
    · cases z; rw [List.getElem?_set_self (by rw [R.len]; exact hl)]; exact h
    · rw [List.getElem?_set_ne (Ne.symm hj)]; exact R.sl j m e
  · rcases set_get e1 with ⟨rfl, hl, z⟩ | ⟨hj, e1'⟩
    · rcases set_get e2 with ⟨rfl, hl', z'⟩ | ⟨hk, e2'⟩
      · rfl
      · cases z
        rw [List.getElem?_set_self (by rw [R.len]; exact hl)] at e3
        rw [List.getElem?_set_ne (Ne.symm hk)] at e4
        have : v = u := by simpa using e3
        subst this
        exact absurd e4 (hf h1 k n e2' h2)
    · rcases set_get e2 with ⟨rfl, hl', z'⟩ | ⟨hk, e2'⟩
      · cases z'
        rw [List.getElem?_set_self (by rw [R.len]; exact hl')] at e4
        rw [List.getElem?_set_ne (Ne.symm hj)] at e3
        have : v = u := by simpa using e4
        subst this
        exact absurd e3 (hf h2 j m e1' h1)
      · rw [List.getElem?_set_ne (Ne.symm hj)] at e3
        rw [List.getElem?_set_ne (Ne.symm hk)] at e4
        exact R.ds j k m n u e1' e2' h1 h2 e3 e4
  · rcases set_get e with ⟨rfl, hl, z⟩ | ⟨hj, eo⟩
    · cases z
      obtain ⟨n1, n2, n3, n4⟩ := (hn (hfp b xs hb)).2 b xs hb
      refine ⟨n1, fun k n e2 => ?_⟩
      rcases set_get e2 with ⟨rfl, hl', z'⟩ | ⟨hk, e2'⟩
      · cases z'
        rw [List.getElem?_set_self (by rw [R.len]; exact hl)]
        exact ⟨fun _ q => n2 (by simpa using q), fun _ _ => rfl⟩
      · rw [List.getElem?_set_ne (Ne.symm hk)]
        exact ⟨n3 k n e2', fun ys q => absurd q (n4 k n ys e2')⟩
    · obtain ⟨n1, n2⟩ := R.ns j m b xs eo hb
      refine ⟨n1, fun k n e2 => ?_⟩
      rcases set_get e2 with ⟨rfl, hl', z'⟩ | ⟨hk, e2'⟩
      · cases z'
        rw [List.getElem?_set_self (by rw [R.len]; exact hl')]
        refine ⟨fun ho q => ?_, fun ys q => ?_⟩
        · have q : v = .ref b := by simpa using q
          exact (hn ho).1 b q j m xs eo hb
        · exact absurd hb (((hn (hfp b ys q)).2 b ys q).2.2.2 j m xs eo)
      · rw [List.getElem?_set_ne (Ne.symm hk)]
        exact n2 k n e2'
theorem Rel.store_d [Pn] (R : Rel K G ρ F σ H) (i : Nat) (h : Df K F v x) : Rel K G (ρ.set i (some (.d x))) F (σ.set i (some v)) H :=
  R.store i ⟨v, rfl, h⟩ (fun z => by cases z) fun z => by cases z
theorem Rel.weak [Pn] (R : Rel K G ρ F σ H) {ρ' : En} {σ' : L2.St} (hl : σ'.length = ρ'.length) (w : ∀ (i : Nat) (l : Lc), ρ'[i]? = some (some l) → ρ[i]? = some (some l) ∧ σ'[i]? = σ[i]?) : Rel K G ρ' F σ' H := by
  refine ⟨R.fh, R.ff, R.fr, R.nw, R.ih, hl, fun i l e => ?_, fun i j l m v e1 e2 h1 h2 e3 e4 => ?_, R.ok, fun i l b xs e hb => ⟨(R.ns i l b xs (w i l e).1 hb).1, fun j m e2 => by rw [(w j m e2).2]; exact (R.ns i l b xs (w i l e).1 hb).2 j m (w j m e2).1⟩⟩
  · obtain ⟨a, b⟩ := w i l e; rw [b]; exact R.sl i l a
  · obtain ⟨a, b⟩ := w i l e1
    obtain ⟨a', b'⟩ := w j m e2
    rw [b] at e3; rw [b'] at e4
    exact R.ds i j l m v a a' h1 h2 e3 e4
theorem Rel.drop [Pn] (R : Rel K G ρ F σ H) (i : Nat) : Rel K G (ρ.set i none) F σ H := by
  refine R.weak (by rw [List.length_set]; exact R.len) fun j l e => ?_
  rcases set_get e with ⟨_, _, z⟩ | ⟨_, e⟩
  · cases z
  · exact ⟨e, rfl⟩
theorem Rel.at_ [Pn] (R : Rel K G ρ F σ H) (e : ρ[i]? = some (some l)) (h : l.own = true) : ∃ a, σ[i]? = some (some (.ref a)) ∧ At K G F H l a := (own_slot h).mp (R.sl i l e)
theorem Rel.noN_free [Pn] (R : Rel K G ρ F σ H) (h : H p = none) : NoN ρ p := fun j m ys e z => by
  obtain ⟨vs, e1, _⟩ := (R.ns j m p ys e z).1.ob
  rw [h] at e1; cases e1
theorem Rel.noS_free [Pn] (R : Rel K G ρ F σ H) (h : H p = none) : NoS ρ σ p := fun j m e hm z => by
  obtain ⟨a, e1, _, _, ob, eo, _⟩ := R.at_ e hm
  rw [z] at e1
  have : p = a := by simpa using e1
  subst this
  rw [h] at eo; cases eo
theorem Rel.noN_at [Pn] (R : Rel K G ρ F σ H) (e : ρ[i]? = some (some l)) (ho : l.own = true) (es : σ[i]? = some (some (.ref a))) : NoN ρ a := fun j m ys q z => ((R.ns j m a ys q z).2 i l e).1 ho es
theorem NoN.sub {ρ' : En} (h : NoN ρ p) (w : ∀ (j : Nat) (m : Lc), ρ'[j]? = some (some m) → ρ[j]? = some (some m)) : NoN ρ' p := fun j m ys e => h j m ys (w j m e)
theorem NoN.drop (h : NoN ρ p) (i : Nat) : NoN (ρ.set i none) p := h.sub fun j m e => by
  rcases set_get e with ⟨_, _, z⟩ | ⟨_, e⟩
  · cases z
  · exact e
theorem At.pin (h : At K G F H l a) (hp : a ≠ p) (o : HO) : At K (G.pin p o) F H l a := by
  refine ⟨h.nf, ?_, h.ob⟩
  have ow := h.ow
  cases e : l.tag with
  | none =>
    rw [e] at ow
    show (if a = p then some o else G.H0 a) = none
    rw [if_neg hp]; exact ow
  | some k => rw [e] at ow; exact ow
theorem Rel.pin [Pn] (R : Rel K G ρ F σ H) (hF : F p = none) (hH : H p = some o) (h0 : G.H0 p = none) (hf : ∀ (j : Nat) (m : Lc), ρ[j]? = some (some m) → m.own = true → σ[j]? ≠ some (some (.ref p))) (hn : NoN ρ p) (no : ∀ us, o ≠ .tup us := by intro _ h; cases h) : Rel K (G.pin p o) ρ F σ H := by
  refine ⟨R.fh, R.ff, fun b u e hb => ?_, fun b h1 h2 => ?_, fun a ha => ⟨(R.ih a ha).1, ?_⟩, R.len, fun i l e => ?_, R.ds, Pn.pin R.ok h0 (R.ff.free hF) (fun z => (R.ih p z).2 h0) no, fun i l b xs e hb => ⟨⟨(R.ns i l b xs e hb).1.nf, ?_, (R.ns i l b xs e hb).1.ob⟩, (R.ns i l b xs e hb).2⟩⟩
  · have e : (if b = p then some o else G.H0 b) = some u := e
    by_cases hbp : b = p
    · subst hbp; rw [if_pos rfl] at e; cases e; exact hH
    · rw [if_neg hbp] at e; exact R.fr b u e hb
  · show (if b = p then some o else G.H0 b) = none ∨ _
    have hbp : b ≠ p := fun z => h1 (by rw [z]; exact hF)
    rw [if_neg hbp]; exact R.nw b h1 h2
  · show (if a = p then some o else G.H0 a) ≠ none
    have := (R.ih a ha).2
    by_cases hap : a = p
    · rw [if_pos hap]; simp
    · rw [if_neg hap]; exact this
  · have z := R.sl i l e
    cases hl : l.own with
    | true =>
      rw [own_slot hl] at z ⊢
      obtain ⟨c, e1, z⟩ := z
      exact ⟨c, e1, z.pin (fun q => hf i l e hl (by rw [e1, q])) o⟩
    | false =>
      rcases not_own hl with ⟨x, rfl⟩ | ⟨v, rfl⟩
      · exact z
      · exact z
  · show (if b = p then some o else G.H0 b) = none ∨ ∃ k, l.tag = some k ∧ (k, b) ∈ G.nio ∧ b ∈ G.io
    have hbp : b ≠ p := fun z => hn i l xs e (by rw [← z]; exact hb)
    rw [if_neg hbp]; exact (R.ns i l b xs e hb).1.ow
theorem Rel.unpinN [Pn] (R : Rel K (G.pin p o) ρ F σ H) (hio : p ∉ G.io) : NoN ρ p := fun j m ys e z => by
  rcases (R.ns j m p ys e z).1.ow with w | w
  · have w : (if p = p then some o else G.H0 p) = none := w
    rw [if_pos rfl] at w; cases w
  · obtain ⟨_, _, _, w⟩ := w; exact hio w
theorem Rel.unpin [Pn] (ok : Pn.P G) (R : Rel K (G.pin p o) ρ F σ H) (h0 : G.H0 p = none) (f0 : G.F0 p = none) (hio : p ∉ G.io) (no : ∀ us, o ≠ .tup us := by intro _ h; cases h) :
    Rel K G ρ F σ H ∧ F p = none ∧ H p = some o ∧ ∀ (j : Nat) (m : Lc), ρ[j]? = some (some m) → m.own = true → σ[j]? ≠ some (some (.ref p)) := by
  have hp : (G.pin p o).H0 p = some o := if_pos rfl
  have nt : ∀ {l : Lc} {a : Addr}, At K (G.pin p o) F H l a → a ≠ p := fun {l a} z q => by
    subst q
    have ow := z.ow
    cases e : l.tag with
    | none => rw [e] at ow; have ow : (G.pin a o).H0 a = none := ow; rw [hp] at ow; cases ow
    | some k => rw [e] at ow; exact hio (List.mem_of_getElem? ow)
  have ne : ∀ (j : Nat) (m : Lc), ρ[j]? = some (some m) → m.own = true → σ[j]? ≠ some (some (.ref p)) := fun j m e hm z => by
    obtain ⟨a, e1, q⟩ := R.at_ e hm
    rw [z] at e1
    have : p = a := by simpa using e1
    exact nt q this.symm
  have fp : F p = none := by
    cases e : F p with
    | none => rfl
    | some u =>
      rcases R.nw p (by rw [e]; simp) f0 with z | ⟨us, z⟩
      · rw [hp] at z; cases z
      · have z := R.fh _ _ z
        rw [R.fr p o hp hio] at z
        cases z
        exact absurd rfl (no us)
  refine ⟨⟨R.fh, R.ff, fun b u e hb => ?_, fun b h1 h2 => ?_, fun a ha => ⟨(R.ih a ha).1, ?_⟩, R.len, fun i l e => ?_, R.ds, ok, fun i l b xs e hb => ⟨⟨(R.ns i l b xs e hb).1.nf, ?_, (R.ns i l b xs e hb).1.ob⟩, (R.ns i l b xs e hb).2⟩⟩, fp, R.fr p o hp hio, ne⟩
  · refine R.fr b u ?_ hb
    show (if b = p then some o else G.H0 b) = some u
    rw [if_neg (fun z => by rw [z, h0] at e; cases e)]; exact e
  · rcases R.nw b h1 h2 with this | this
    · have this : (if b = p then some o else G.H0 b) = none := this
      by_cases hbp : b = p
      · rw [hbp]; exact .inl h0
      · rw [if_neg hbp] at this; exact .inl this
    · exact .inr this
  · have := (R.ih a ha).2
    have this : (if a = p then some o else G.H0 a) ≠ none := this
    have hap : a ≠ p := fun z => hio (by rw [← z]; exact ha)
    rw [if_neg hap] at this; exact this
  · have z := R.sl i l e
    cases hl : l.own with
    | true =>
      rw [own_slot hl] at z ⊢
      obtain ⟨c, e1, z⟩ := z
      have hc := nt z
      refine ⟨c, e1, z.nf, ?_, z.ob⟩
      have ow := z.ow
      cases q : l.tag with
      | none =>
        rw [q] at ow
        have ow : (if c = p then some o else G.H0 c) = none := ow
        rw [if_neg hc] at ow; exact ow
      | some k => rw [q] at ow; exact ow
    | false =>
      rcases not_own hl with ⟨x, rfl⟩ | ⟨v, rfl⟩
      · exact z
      · exact z
  · have hbp : b ≠ p := fun z => R.unpinN hio i l xs e (by rw [← z]; exact hb)
    rcases (R.ns i l b xs e hb).1.ow with w | w
    · have w : (if b = p then some o else G.H0 b) = none := w
      rw [if_neg hbp] at w; exact .inl w
    · exact .inr w
theorem HoOk.fp_nodup (ok : HoOk K F l o) : (l.fp.map (·.1)).Nodup := by
  cases l <;> first | exact List.nodup_nil | skip
  · cases o <;> first | exact False.elim ok | skip
    have := ok.2.2
    show ((List.map _ _).map _).Nodup
    rw [List.map_map]; exact this
  · cases o <;> first | exact False.elim ok | exact ok.2
def Gm.pins (G : Gm) : List (Addr × HO) → Gm
  | [] => G
  | p :: r => (G.pin p.1 p.2).pins r
theorem Gm.pin_ne {q : Addr} (h : q ≠ p) : (G.pin p o).H0 q = G.H0 q := if_neg h
theorem Rel.pins [Pn] : ∀ {L : List (Addr × HO)} {G : Gm}, (L.map (·.1)).Nodup → (∀ q ∈ L, F q.1 = none ∧ H q.1 = some q.2 ∧ G.H0 q.1 = none ∧ NoS ρ σ q.1 ∧ NoN ρ q.1 ∧ ∀ us, q.2 ≠ .tup us) → Rel K G ρ F σ H → Rel K (G.pins L) ρ F σ H
  | [], G, _, _, R => R
  | q :: r, G, nd, h, R => by
    rw [List.map_cons, List.nodup_cons] at nd
    obtain ⟨h1, h2, h3, h4, h5, h6⟩ := h q List.mem_cons_self
    refine Rel.pins (L := r) (G := G.pin q.1 q.2) nd.2 (fun z hz => ?_) (R.pin h1 h2 h3 h4 h5 h6)
    obtain ⟨g1, g2, g3, g4, g5, g6⟩ := h z (List.mem_cons_of_mem _ hz)
    exact ⟨g1, g2, by rw [Gm.pin_ne fun e => nd.1 (by rw [← e]; exact List.mem_map_of_mem hz)]; exact g3, g4, g5, g6⟩
theorem Rel.unpins [Pn] : ∀ {L : List (Addr × HO)} {G : Gm}, Pn.P G → (L.map (·.1)).Nodup → (∀ q ∈ L, G.H0 q.1 = none ∧ G.F0 q.1 = none ∧ q.1 ∉ G.io ∧ ∀ us, q.2 ≠ .tup us) → Rel K (G.pins L) ρ F σ H →
    Rel K G ρ F σ H ∧ ∀ q ∈ L, F q.1 = none ∧ H q.1 = some q.2 ∧ NoS ρ σ q.1 ∧ NoN ρ q.1
  | [], G, _, _, _, R => ⟨R, fun _ z => absurd z List.not_mem_nil⟩
  | q :: r, G, ok, nd, h, R => by
    rw [List.map_cons, List.nodup_cons] at nd
    obtain ⟨h1, h2, h3, h4⟩ := h q List.mem_cons_self
    obtain ⟨R1, w⟩ := Rel.unpins (L := r) (G := G.pin q.1 q.2) (Pn.pin ok h1 h2 h3 h4) nd.2 (fun z hz => by
      obtain ⟨g1, g2, g3, g4⟩ := h z (List.mem_cons_of_mem _ hz)
      exact ⟨by rw [Gm.pin_ne fun e => nd.1 (by rw [← e]; exact List.mem_map_of_mem hz)]; exact g1, g2, g3, g4⟩) R
    obtain ⟨R2, f1, f2, f3⟩ := R1.unpin ok h1 h2 h3 h4
    refine ⟨R2, fun z hz => ?_⟩
    rcases List.mem_cons.mp hz with rfl | hz
    · exact ⟨f1, f2, f3, R1.unpinN h3⟩
    · exact w z hz
def Lc.pd : Lc → PD
  | .d x => x
  | .ls _ xs => .list xs
  | .dk _ kvs => .dict (kvs.map fun p => (keyD p.1, p.2))
  | .ob _ C fs => .dict ((.none, .int (C : Int)) :: fs.map fun p => (.str p.1, p.2))
  | _ => .none
def Lc.fz : Lc → Bool
  | .d _ => true
  | .ls none _ => true
  | .dk none _ => true
  | .ob none _ _ => true
  | _ => false
theorem DKv.dfk {us : List (Key × V)} {kvs : List (Key × PD)} (h : DKv K F us kvs) : DfK K F us (kvs.map fun p => (keyD p.1, p.2)) := by
  induction us generalizing kvs with
  | nil => cases h; exact .nil
  | cons u us ih =>
    cases h with
    | cons a b =>
      obtain ⟨k, v⟩ := u
      obtain ⟨a1, a2⟩ := a
      rename_i q r
      obtain ⟨k', d⟩ := q
      have : k = k' := a1
      subst this
      exact .cons a2 (ih b)
theorem DKv.dff {us : List (Str × V)} {fs : List (Str × PD)} (h : DKv K F us fs) : DfF K F us (fs.map fun p => (.str p.1, p.2)) := by
  induction us generalizing fs with
  | nil => cases h; exact .nil
  | cons u us ih =>
    cases h with
    | cons a b =>
      obtain ⟨k, v⟩ := u
      obtain ⟨a1, a2⟩ := a
      rename_i q r
      obtain ⟨k', d⟩ := q
      have : k = k' := a1
      subst this
      exact .cons a2 (ih b)
theorem HoOk.df (ok : HoOk K F l o) (hz : l.fz = true) (e : H a = some o) (s : Same F H) : Df K H (.ref a) l.pd := by
  cases l with
  | d x => cases o <;> exact False.elim ok
  | sc v => cases o <;> exact False.elim ok
  | ls p xs =>
    cases o with
    | lst vs => exact .lst (.inl e) (DfA.mono s ok)
    | _ => exact False.elim ok
  | dk p xs =>
    cases o with
    | dK vs => exact .dk (.inl e) ((DKv.mono s ok).dfk)
    | _ => exact False.elim ok
  | dt p xs => cases p <;> simp [Lc.fz] at hz
  | ob p C fs =>
    cases o with
    | ins D dx us =>
      obtain ⟨rfl, h⟩ := ok
      exact .ins e ((DKv.mono s h).dff)
    | _ => exact False.elim ok
  | nb p C fs ns => simp [Lc.fz] at hz
  | ln p xs => simp [Lc.fz] at hz
theorem Rel.freeze [Pn] (R : Rel K G ρ F σ H) (nf : F a = none) (n0 : G.H0 a = none) (e : H a = some o) (hf : ∀ (j : Nat) (m : Lc), ρ[j]? = some (some m) → m.own = true → σ[j]? ≠ some (some (.ref a))) (hn : NoN ρ a) : Rel K G ρ (upd F a o) σ H ∧ Same F (upd F a o) := by
  have sf : Same F (upd F a o) := same_new nf o
  refine ⟨⟨fun b u q => ?_, R.ff.trans sf, R.fr, fun b h1 h2 => ?_, R.ih, R.len, fun j m q => ?_, R.ds, R.ok, fun i l b xs q hb => ⟨⟨?_, (R.ns i l b xs q hb).1.ow, ?_⟩, (R.ns i l b xs q hb).2⟩⟩, sf⟩
  · by_cases hb : b = a
    · subst hb; rw [upd_same] at q; cases q; exact e
    · rw [upd_ne hb] at q; exact R.fh _ _ q
  · by_cases hb : b = a
    · subst hb; exact .inl n0
    · rw [upd_ne hb] at h1
      rw [upd_ne hb]; exact R.nw b h1 h2
  · have z := R.sl j m q
    cases hm : m.own with
    | true =>
      rw [own_slot hm] at z ⊢
      obtain ⟨c, e1, h1, h2, ob, h3, h4⟩ := z
      have hc : c ≠ a := fun q' => hf j m q hm (by rw [e1, q'])
      exact ⟨c, e1, by rw [upd_ne hc]; exact h1, h2, ob, h3, h4.mono sf⟩
    | false =>
      rcases not_own hm with ⟨x, rfl⟩ | ⟨v, rfl⟩
      · obtain ⟨v, e1, h1⟩ := z; exact ⟨v, e1, h1.mono sf⟩
      · obtain ⟨v, e1, h1⟩ := z; exact ⟨v, e1, h1.mono sf⟩
  · have hba : b ≠ a := fun z => hn i l xs q (by rw [← z]; exact hb)
    rw [upd_ne hba]; exact (R.ns i l b xs q hb).1.nf
  · obtain ⟨vs, e1, h1⟩ := (R.ns i l b xs q hb).1.ob
    exact ⟨vs, e1, h1.mono sf⟩
theorem Rel.freeze_slot [Pn] (R : Rel K G ρ F σ H) (e : ρ[i]? = some (some l)) (ho : l.own = true) (hz : l.fz = true) :
    ∃ F' a, Rel K G (ρ.set i (some (.d l.pd))) F' σ H ∧ Same F F' ∧ σ[i]? = some (some (.ref a)) ∧ Df K F' (.ref a) l.pd := by
  obtain ⟨a, es, nf, ow, ob, eo, ok⟩ := R.at_ e ho
  have n0 : G.H0 a = none := by
    cases l with
    | d x => simp [Lc.own] at ho
    | sc x => simp [Lc.own] at ho
    | ls p xs => cases p <;> first | exact ow | (simp [Lc.fz] at hz)
    | dk p xs => cases p <;> first | exact ow | (simp [Lc.fz] at hz)
    | dt p xs => cases p <;> first | exact ow | (simp [Lc.fz] at hz)
    | ob p C xs => cases p <;> first | exact ow | (simp [Lc.fz] at hz)
    | nb p C fs ns => simp [Lc.fz] at hz
    | ln p xs => simp [Lc.fz] at hz
  have R1 : Rel K G (ρ.set i none) F σ H := R.drop i
  obtain ⟨R2, sf⟩ := R1.freeze nf n0 eo (fun j m q hm z => by
    rcases set_get q with ⟨_, _, w⟩ | ⟨hj, q⟩
    · cases w
    · exact hj (R.ds j i m l _ q e hm ho z es)) ((R.noN_at e ho es).drop i)
  have hd : Df K (upd F a ob) (.ref a) l.pd := ok.df hz upd_same sf
  have hi : i < ρ.length := (List.getElem?_eq_some_iff.mp e).1
  have hσ : i < σ.length := by rw [R.len]; exact hi
  have R3 := R2.store_d i hd
  have e1 : (ρ.set i none).set i (some (.d l.pd)) = ρ.set i (some (.d l.pd)) := by rw [List.set_set]
  have e2 : σ.set i (some (.ref a)) = σ := by
    apply List.ext_getElem?
    intro j
    by_cases hj : i = j
    · subst hj; rw [List.getElem?_set_self hσ, es]
    · rw [List.getElem?_set_ne hj]
  rw [e1, e2] at R3
  exact ⟨_, a, R3, sf, es, hd⟩
theorem Rel.write [Pn] (R : Rel K G ρ F σ H) (e : ρ[i]? = some (some l)) (ho : l.own = true) (es : σ[i]? = some (some (.ref a))) (ok : HoOk K F m o) (ht : m.tag = l.tag) (hfp : m.fp = l.fp := by rfl) :
    Rel K G (ρ.set i (some m)) F σ (upd H a o) := by
  obtain ⟨a', es', nf, ow, ob, eo, _⟩ := R.at_ e ho
  rw [es] at es'
  have : a = a' := by simpa using es'
  subst this
  have hi : i < ρ.length := (List.getElem?_eq_some_iff.mp e).1
  have ne : ∀ (j : Nat) (n : Lc), ρ[j]? = some (some n) → n.own = true → j ≠ i → σ[j]? ≠ some (some (.ref a)) := fun j n q hn hj z => hj (R.ds j i n l _ q e hn ho z es)
  refine ⟨fun b u q => ?_, R.ff, fun b u q hb => ?_, R.nw, fun b hb => ?_, by rw [List.length_set]; exact R.len, fun j n q => ?_, fun j k n r u q1 q2 h1 h2 q3 q4 => ?_, R.ok, fun j n b xs q hb => ?_⟩
  · rw [upd_ne (ne_of_none q nf)]; exact R.fh _ _ q
  · have : b ≠ a := by
      rintro rfl
      have ow' : OwnP G l.tag b := ow
      cases ht' : l.tag with
      | none => rw [ht'] at ow'; have ow' : G.H0 b = none := ow'; rw [q] at ow'; cases ow'
      | some k => rw [ht'] at ow'; exact hb (List.mem_of_getElem? ow')
    rw [upd_ne this]; exact R.fr b u q hb
  · refine ⟨?_, (R.ih b hb).2⟩
    by_cases hb' : b = a
    · subst hb'; rw [upd_same]; simp
    · rw [upd_ne hb']; exact (R.ih b hb).1
  · rcases set_get q with ⟨rfl, _, z⟩ | ⟨hj, q⟩
    · cases z
      rw [own_slot ok.own]
      exact ⟨a, es, nf, by rw [ht]; exact ow, o, upd_same, ok⟩
    · have z := R.sl j n q
      cases hn : n.own with
      | true =>
        rw [own_slot hn] at z ⊢
        obtain ⟨c, e1, h1, h2, u, h3, h4⟩ := z
        have hc : c ≠ a := fun w => ne j n q hn hj (by rw [e1, w])
        exact ⟨c, e1, h1, h2, u, by rw [upd_ne hc]; exact h3, h4⟩
      | false =>
        rcases not_own hn with ⟨x, rfl⟩ | ⟨v, rfl⟩
        · exact z
        · exact z
  · have old : ∀ {j : Nat} {n : Lc}, (ρ.set i (some m))[j]? = some (some n) → n.own = true → ∃ n', ρ[j]? = some (some n') ∧ n'.own = true := fun {j n} q hn => by
      rcases set_get q with ⟨rfl, _, z⟩ | ⟨hj, q⟩
      · exact ⟨l, e, ho⟩
      · exact ⟨n, q, hn⟩
    obtain ⟨n', q1', h1'⟩ := old q1 h1
    obtain ⟨r', q2', h2'⟩ := old q2 h2
    exact R.ds j k n' r' u q1' q2' h1' h2' q3 q4
  · have old : ∀ {j : Nat} {n : Lc}, (ρ.set i (some m))[j]? = some (some n) → ∃ n', ρ[j]? = some (some n') ∧ n'.fp = n.fp ∧ (n.own = true → n'.own = true) := fun {j n} q => by
      rcases set_get q with ⟨rfl, _, z⟩ | ⟨hj, q⟩
      · cases z; exact ⟨l, e, hfp.symm, fun _ => ho⟩
      · exact ⟨n, q, rfl, id⟩
    obtain ⟨n', q', f', _⟩ := old q
    obtain ⟨⟨z1, z2, vs, z3, z4⟩, w⟩ := R.ns j n' b xs q' (by rw [f']; exact hb)
    have hba : b ≠ a := fun z => R.noN_at e ho es j n' xs q' (by rw [← z, f']; exact hb)
    have et : n'.tag = n.tag := by
      rcases set_get q with ⟨rfl, _, z⟩ | ⟨hj, q⟩
      · cases z; rw [e] at q'; cases q'; exact ht.symm
      · rw [q] at q'; cases q'; rfl
    rw [et] at z2
    refine ⟨⟨z1, z2, vs, by rw [upd_ne hba]; exact z3, z4⟩, fun k r q2 => ?_⟩
    obtain ⟨r', q2', f2, o2⟩ := old q2
    obtain ⟨w1, w2⟩ := w k r' q2'
    exact ⟨fun hr => w1 (o2 hr), fun ys hy => w2 ys (by rw [f2]; exact hy)⟩
end
end DL
namespace DL
open PySem L2
theorem peImp {X : Cx} {e : Expr} {t t' : TE} (h : PE X e t) (w : ∀ σ H Q, t' σ H Q → t σ H Q) : PE X e t' := ⟨fun pins s σ H Q I q => h.run pins s σ H Q I (w _ _ _ q)⟩
theorem ptImp {X : Cx} {e : Expr} {t t' : TT} (h : PT X e t) (w : ∀ σ H Q, t' σ H Q → t σ H Q) : PT X e t' := ⟨fun pins s σ H Q I q => h.run pins s σ H Q I (w _ _ _ q)⟩
theorem pwImp {X : Cx} {e : Expr} {t t' : TT} (h : PW X e t) (w : ∀ σ H Q, t' σ H Q → t σ H Q) : PW X e t' := ⟨fun wh pins s σ H Q I q => h.run wh pins s σ H Q I (w _ _ _ q)⟩
theorem paImp {X : Cx} {e : List Expr} {t t' : TA} (h : PA X e t) (w : ∀ σ H Q, t' σ H Q → t σ H Q) : PA X e t' := ⟨fun pos pins s σ H Q I q => h.run pos pins s σ H Q I (w _ _ _ q)⟩
theorem psImp {X : Cx} {e : Stmt} {t t' : TS} (h : PS X e t) (w : ∀ D σ H, t' D σ H → t D σ H) : PS X e t' := ⟨fun pins s σ H D I q => h.run pins s σ H D I (w _ _ _ q)⟩
theorem pssImp {X : Cx} {e : List Stmt} {t t' : TS} (h : PSs X e t) (w : ∀ D σ H, t' D σ H → t D σ H) : PSs X e t' := ⟨fun pins s σ H D I q => h.run pins s σ H D I (w _ _ _ q)⟩
abbrev TD := En → (PD → En → Prop) → Prop
abbrev TF := En → (Lc → En → Prop) → Prop
abbrev TTd := En → (Bool → En → Prop) → Prop
inductive Op1 where
  | e (t : TD)
  | s (i : Nat)
  /-- the own list under a name in the own instance of a slot -/
  | f (C : Addr) (i : Nat) (nm : Str)
inductive AV where
  | v (x : PD)
  | s (i : Nat)
  | f (i : Nat) (nm : Str) (b : Addr)
abbrev TAd := En → (List AV → En → Prop) → Prop
def Op1.run : Op1 → En → (AV → En → Prop) → Prop
  | .e t, ρ, Q => t ρ fun x ρ' => Q (.v x) ρ'
  | .s i, ρ, Q => match ρ[i]? with
    | some (some _) => Q (.s i) ρ
    | _ => False
  | .f C i nm, ρ, Q => match ρ[i]? with
    | some (some (.nb _ B fs ns)) => B = C ∧ noF nm fs = true ∧ (match getN nm ns with
      | some (b, _) => Q (.f i nm b) ρ
      | none => False)
    | _ => False
section
variable (K : PySem.W.Frag)
structure Frs (G : Gm) (F H : Hp) (ρ : En) (σ : L2.St) (l : Lc) (a : Addr) : Prop where
  hf : NoS ρ σ a
  hn : NoN ρ a
  ns : NsR K G F H ρ σ l (.ref a)
def RsOk (G : Gm) (F H : Hp) (ρ : En) (σ : L2.St) : Lc → V → Prop
  | .d x, v => Df K F v x
  | .sc xs, v => ScOk K F xs v
  | l, v => ∃ a, v = .ref a ∧ l.tag = none ∧ At K G F H l a ∧ Frs K G F H ρ σ l a
def AvOk (F : Hp) (σ : L2.St) : AV → V → Prop
  | .v x, v => Df K F v x
  | .s i, v => σ[i]? = some (some v)
  | .f _ _ b, v => v = .ref b
inductive AvA (F : Hp) (σ : L2.St) : List AV → List V → Prop
  | nil : AvA F σ [] []
  | cons {a : AV} {as : List AV} {v : V} {vs : List V} : AvOk K F σ a v → AvA F σ as vs → AvA F σ (a :: as) (v :: vs)
def liftD [Pn] (t : TD) : TE := fun σ H Q => ∃ G ρ F Q', Rel K G ρ F σ H ∧ t ρ Q' ∧ ∀ x ρ' v H' F', Q' x ρ' → Rel K G ρ' F' σ H' → Same F F' → Df K F' v x → Q v H'
def liftF [Pn] (t : TF) : TE := fun σ H Q => ∃ G ρ F Q', Rel K G ρ F σ H ∧ t ρ Q' ∧ ∀ l ρ' v H' F', Q' l ρ' → Rel K G ρ' F' σ H' → Same F F' → RsOk K G F' H' ρ' σ l v → Q v H'
def liftT [Pn] (t : TTd) : TT := fun σ H Q => ∃ G ρ F Q', Rel K G ρ F σ H ∧ t ρ Q' ∧ ∀ b ρ' H' F', Q' b ρ' → Rel K G ρ' F' σ H' → Same F F' → Q b H'
def liftO [Pn] (o : Op1) : TE := fun σ H Q => ∃ G ρ F Q', Rel K G ρ F σ H ∧ o.run ρ Q' ∧ ∀ a ρ' v H' F', Q' a ρ' → Rel K G ρ' F' σ H' → Same F F' → AvOk K F' σ a v → Q v H'
def liftA [Pn] (n : Nat) (t : TAd) : TA := fun σ H Q => ∃ G ρ F Q', Rel K G ρ F σ H ∧ t ρ Q' ∧ ∀ as ρ' vs H' F', Q' as ρ' → as.length = n → Rel K G ρ' F' σ H' → Same F F' → AvA K F' σ as vs → Q vs H'
end
structure LD [Pn] (X : Cx) (e : Expr) (t : TD) : Prop where
  p : PE X e (liftD X.K t)
structure LF [Pn] (X : Cx) (e : Expr) (t : TF) : Prop where
  p : PE X e (liftF X.K t)
structure LT [Pn] (X : Cx) (e : Expr) (t : TTd) : Prop where
  p : PT X e (liftT X.K t)
structure LW [Pn] (X : Cx) (e : Expr) (t : TTd) : Prop where
  p : PW X e (liftT X.K t)
structure LO [Pn] (X : Cx) (e : Expr) (t : Op1) : Prop where
  p : PE X e (liftO X.K t)
structure LA [Pn] (X : Cx) (es : List Expr) (t : TAd) : Prop where
  p : PA X es (liftA X.K es.length t)
section
variable {G : Gm} {X : Cx} {K : PySem.W.Frag} {F F' H H' : Hp} {ρ : En} {σ : L2.St} {v : V} {x : PD}
inductive Dr (K : PySem.W.Frag) (F H : Hp) : V → PD → Prop
  | f {v : V} {x : PD} : Df K F v x → Dr K F H v x
  | l {a : Addr} {vs : List V} {xs : List PD} : H a = some (.lst vs) → DfA K F vs xs → Dr K F H (.ref a) (.list xs)
  | k {a : Addr} {us : List (Key × V)} {kvs : List (Key × PD)} : H a = some (.dK us) → DKv K F us kvs → Dr K F H (.ref a) (.dict (kvs.map fun p => (keyD p.1, p.2)))
def res1 (ρ : En) : AV → (PD → Prop) → Prop
  | .v x, k => k x
  | .s i, k => match ρ[i]? with
    | some (some (.d x)) => k x
    | some (some (.ls _ xs)) => k (.list xs)
    | some (some (.dk _ kvs)) => k (.dict (kvs.map fun p => (keyD p.1, p.2)))
    | _ => False
  | .f i nm b, k => match ρ[i]? with
    | some (some (.nb _ _ _ ns)) => (match getN nm ns with
      | some (c, xs) => c = b ∧ k (.list xs)
      | none => False)
    | _ => False
def resF (ρ : En) : AV → (PD → Prop) → Prop
  | .v x, k => k x
  | .s i, k => match ρ[i]? with
    | some (some (.d x)) => k x
    | _ => False
  | .f _ _ _, _ => False
def resA (ρ : En) : List AV → (List PD → Prop) → Prop
  | [], k => k []
  | a :: r, k => res1 ρ a fun x => resA ρ r fun xs => k (x :: xs)
def resFA (ρ : En) : List AV → (List PD → Prop) → Prop
  | [], k => k []
  | a :: r, k => resF ρ a fun x => resFA ρ r fun xs => k (x :: xs)
inductive DrA (K : PySem.W.Frag) (F H : Hp) : List V → List PD → Prop
  | nil : DrA K F H [] []
  | cons {v : V} {vs : List V} {d : PD} {ds : List PD} : Dr K F H v d → DrA K F H vs ds → DrA K F H (v :: vs) (d :: ds)
theorem AvOk.mono {a : AV} (s : Same F F') (h : AvOk K F σ a v) : AvOk K F' σ a v := by
  cases a with
  | v x => exact Df.mono s h
  | s i => exact h
  | f i nm b => exact h
theorem Rel.nst [Pn] {i : Nat} {p : Option Nat} {C : Addr} {fs : List (Str × PD)} {ns : List (Str × Addr × List PD)} {nm : Str} {b : Addr} {xs : List PD} (R : Rel K G ρ F σ H) (e : ρ[i]? = some (some (.nb p C fs ns))) (h : getN nm ns = some (b, xs)) : ∃ vs, H b = some (.lst vs) ∧ DfA K F vs xs :=
  (R.ns i _ b xs e (List.mem_map.mpr ⟨_, getN_mem h, rfl⟩)).1.ob
theorem AvA.mono {as : List AV} {vs : List V} (s : Same F F') (h : AvA K F σ as vs) : AvA K F' σ as vs := by
  induction h with
  | nil => exact .nil
  | cons a _ ih => exact .cons (a.mono s) ih
theorem res1_dr [Pn] (R : Rel K G ρ F σ H) {a : AV} (h : AvOk K F σ a v) {k : PD → Prop} (r : res1 ρ a k) : ∃ x, k x ∧ Dr K F H v x := by
  cases a with
  | v x => exact ⟨x, r, .f h⟩
  | s i =>
    dsimp only [res1] at r
    have h : σ[i]? = some (some v) := h
    split at r
    · rename_i x e
      obtain ⟨u, e1, d⟩ := R.sl i _ e
      rw [h] at e1
      have : v = u := by simpa using e1
      subst this
      exact ⟨x, r, .f d⟩
    · rename_i p xs e
      obtain ⟨b, e1, nf, ow, o, eo, ok⟩ := R.at_ e rfl
      rw [h] at e1
      have : v = .ref b := by simpa using e1
      subst this
      cases o <;> first | exact False.elim ok | exact ⟨_, r, .l eo ok⟩
    · rename_i p xs e
      obtain ⟨b, e1, nf, ow, o, eo, ok⟩ := R.at_ e rfl
      rw [h] at e1
      have : v = .ref b := by simpa using e1
      subst this
      cases o <;> first | exact False.elim ok | exact ⟨_, r, .k eo ok⟩
    · exact False.elim r
  | f i nm b =>
    dsimp only [res1] at r
    have h : v = .ref b := h
    subst h
    split at r
    · rename_i p C fs ns e
      split at r
      · rename_i c xs en
        obtain ⟨rfl, r⟩ := r
        obtain ⟨vs, e1, d⟩ := R.nst e en
        exact ⟨_, r, .l e1 d⟩
      · exact False.elim r
    · exact False.elim r
theorem resF_df [Pn] (R : Rel K G ρ F σ H) {a : AV} (h : AvOk K F σ a v) {k : PD → Prop} (r : resF ρ a k) : ∃ x, k x ∧ Df K F v x := by
  cases a with
  | v x => exact ⟨x, r, h⟩
  | s i =>
    dsimp only [resF] at r
    have h : σ[i]? = some (some v) := h
    split at r
    · rename_i x e
      obtain ⟨u, e1, d⟩ := R.sl i _ e
      rw [h] at e1
      have : v = u := by simpa using e1
      subst this
      exact ⟨x, r, d⟩
    · exact False.elim r
  | f i nm b => exact False.elim r
theorem resA_dr [Pn] (R : Rel K G ρ F σ H) : ∀ {as : List AV} {vs : List V}, AvA K F σ as vs → ∀ {k : List PD → Prop}, resA ρ as k → ∃ xs, k xs ∧ DrA K F H vs xs
  | _, _, .nil, k, r => ⟨[], r, .nil⟩
  | _, _, .cons a t, k, r => by
    obtain ⟨x, r1, d⟩ := res1_dr R a r
    obtain ⟨xs, r2, ds⟩ := resA_dr R t r1
    exact ⟨x :: xs, r2, .cons d ds⟩
theorem resFA_df [Pn] (R : Rel K G ρ F σ H) : ∀ {as : List AV} {vs : List V}, AvA K F σ as vs → ∀ {k : List PD → Prop}, resFA ρ as k → ∃ xs, k xs ∧ DfA K F vs xs
  | _, _, .nil, k, r => ⟨[], r, .nil⟩
  | _, _, .cons a t, k, r => by
    obtain ⟨x, r1, d⟩ := resF_df R a r
    obtain ⟨xs, r2, ds⟩ := resFA_df R t r1
    exact ⟨x :: xs, r2, .cons d ds⟩
theorem AvA.length {as : List AV} {vs : List V} (h : AvA K F σ as vs) : as.length = vs.length := by
  induction h with
  | nil => rfl
  | cons _ _ ih => rw [List.length_cons, List.length_cons, ih]
theorem Dr.df (s : Same F H) (h : Dr K F H v x) : Df K H v x := by
  cases h with
  | f h => exact h.mono s
  | l e h => exact .lst (.inl e) (h.mono s)
  | k e h => exact .dk (.inl e) ((DKv.mono s h).dfk)
theorem Dr.int {i : Int} (h : Dr K F H v (.int i)) : v = .int i := by cases h with | f h => cases h; rfl
theorem Dr.str {i : Str} (h : Dr K F H v (.str i)) : v = .str i := by cases h with | f h => cases h; rfl
theorem Dr.bl {i : Bool} (h : Dr K F H v (.bool i)) : v = .bl i := by cases h with | f h => cases h; rfl
theorem Dr.non (h : Dr K F H v .none) : v = .non := by cases h with | f h => cases h; rfl
theorem Dr.tup {xs : List PD} (s : Same F H) (h : Dr K F H v (.tuple xs)) : ∃ a vs, v = .ref a ∧ SqT K H a vs ∧ DfA K F vs xs := by
  cases h with
  | f h => cases h with | tup q d => exact ⟨_, _, rfl, seqT s q, d⟩
theorem Dr.lst {xs : List PD} (s : Same F H) (h : Dr K F H v (.list xs)) : ∃ a vs, v = .ref a ∧ Rd H a (.lst vs) ∧ DfA K F vs xs := by
  cases h with
  | f h => cases h with | lst q d => exact ⟨_, _, rfl, rdM s q, d⟩
  | l e d => exact ⟨_, _, rfl, .inl e, d⟩
def dFz (t : TF) : TD := fun ρ Q => t ρ fun l ρ' => if l.fz = true then Q l.pd ρ' else False
def fD (t : TD) : TF := fun ρ Q => t ρ fun x ρ' => Q (.d x) ρ'
theorem RsOk.freeze [Pn] {l : Lc} (R : Rel K G ρ F σ H) (h : RsOk K G F H ρ σ l v) (hz : l.fz = true) : ∃ F', Rel K G ρ F' σ H ∧ Same F F' ∧ Df K F' v l.pd := by
  cases l with
  | d x => exact ⟨F, R, Same.refl _, h⟩
  | sc u => simp [Lc.fz] at hz
  | ls p xs =>
    obtain ⟨a, rfl, ht, ⟨nf, ow, o, eo, ok⟩, hf⟩ := h
    have ht : p = none := ht
    subst ht
    obtain ⟨R', s⟩ := R.freeze nf ow eo hf.hf hf.hn
    exact ⟨_, R', s, ok.df hz upd_same s⟩
  | dk p xs =>
    obtain ⟨a, rfl, ht, ⟨nf, ow, o, eo, ok⟩, hf⟩ := h
    have ht : p = none := ht
    subst ht
    obtain ⟨R', s⟩ := R.freeze nf ow eo hf.hf hf.hn
    exact ⟨_, R', s, ok.df hz upd_same s⟩
  | ob p C xs =>
    obtain ⟨a, rfl, ht, ⟨nf, ow, o, eo, ok⟩, hf⟩ := h
    have ht : p = none := ht
    subst ht
    obtain ⟨R', s⟩ := R.freeze nf ow eo hf.hf hf.hn
    exact ⟨_, R', s, ok.df hz upd_same s⟩
  | dt p xs => cases p <;> simp [Lc.fz] at hz
  | nb p C fs ns => simp [Lc.fz] at hz
  | ln p xs => simp [Lc.fz] at hz
variable {e e2 : Expr} {es : List Expr} {pos : Pos}
theorem LD.ofF [Pn] {t : TF} (h : LF X e t) : LD X e (dFz t) := ⟨peImp h.p fun σ H Q ⟨G, ρ, F, Q', R, q, c⟩ => ⟨G, ρ, F, _, R, q, fun l ρ' v H' F' h1 R1 s1 r1 => by
  split at h1
  · rename_i hz
    obtain ⟨F2, R2, s2, d⟩ := r1.freeze R1 hz
    exact c _ _ v H' F2 h1 R2 (s1.trans s2) d
  · exact False.elim h1⟩⟩
theorem LF.ofD [Pn] {t : TD} (h : LD X e t) : LF X e (fD t) := ⟨peImp h.p fun σ H Q ⟨G, ρ, F, Q', R, q, c⟩ => ⟨G, ρ, F, _, R, q, fun x ρ' v H' F' h1 R1 s1 r1 => c _ _ v H' F' h1 R1 s1 r1⟩⟩
theorem LO.ofD [Pn] {t : TD} (h : LD X e t) : LO X e (.e t) := ⟨peImp h.p fun σ H Q ⟨G, ρ, F, Q', R, q, c⟩ => ⟨G, ρ, F, _, R, q, fun x ρ' v H' F' h1 R1 s1 r1 => c _ _ v H' F' h1 R1 s1 r1⟩⟩
def dC (x : PD) : TD := fun ρ Q => Q x ρ
def dVar (i : Nat) : TD := fun ρ Q => match ρ[i]? with
  | some (some (.d x)) => Q x ρ
  | some (some l) => if l.fz = true then Q l.pd (ρ.set i (some (.d l.pd))) else False
  | _ => False
theorem LD.int [Pn] {i : Int} {j : Nat} : LD X (.Constant (.int i) j pos) (dC (.int i)) := ⟨peImp pe_int fun σ H Q ⟨G, ρ, F, Q', R, q, c⟩ => c _ _ _ H F q R (Same.refl _) (.int i)⟩
theorem LD.str [Pn] {i : Str} {j : Nat} : LD X (.Constant (.str i) j pos) (dC (.str i)) := ⟨peImp pe_str fun σ H Q ⟨G, ρ, F, Q', R, q, c⟩ => c _ _ _ H F q R (Same.refl _) (.str i)⟩
theorem LD.bl [Pn] {i : Bool} {j : Nat} : LD X (.Constant (.bool i) j pos) (dC (.bool i)) := ⟨peImp pe_bl fun σ H Q ⟨G, ρ, F, Q', R, q, c⟩ => c _ _ _ H F q R (Same.refl _) (.bl i)⟩
theorem LD.non [Pn] {j : Nat} : LD X (.Constant .none j pos) (dC .none) := ⟨peImp pe_non fun σ H Q ⟨G, ρ, F, Q', R, q, c⟩ => c _ _ _ H F q R (Same.refl _) .non⟩
theorem LD.glob [Pn] {x : Str} {v : V} {u : Value} {d : PD} (hg : Gl X x) (hm : X.mg x = some u) (r : RelV v u) (h : ∀ F, Df X.K F v d) (hd : (x == ("__debug__" : Str)) = false := by decide) : LD X (.Name x pos) (dC d) :=
  ⟨peImp (pe_glob hg hm r hd) fun σ H Q ⟨G, ρ, F, Q', R, q, c⟩ => c _ _ _ H F q R (Same.refl _) (h F)⟩
theorem LD.var [Pn] (i : Nat) (h : PE X e (tVar i)) : LD X e (dVar i) := ⟨peImp h fun σ H Q ⟨G, ρ, F, Q', R, q, c⟩ => by
  unfold dVar at q
  split at q
  · rename_i x er
    obtain ⟨v, e1, d⟩ := R.sl i _ er
    exact ⟨v, e1, c _ _ v H F q R (Same.refl _) d⟩
  · rename_i l nd er
    split at q
    · rename_i hz
      have ho : l.own = true := by
        cases l with
        | d x => exact absurd rfl (nd x)
        | sc u => simp [Lc.fz] at hz
        | _ => rfl
      obtain ⟨F', a, R', s, es, d⟩ := R.freeze_slot er ho hz
      exact ⟨_, es, c _ _ _ H F' q R' s d⟩
    · exact False.elim q
  · exact False.elim q⟩
theorem LO.s [Pn] (i : Nat) (h : PE X e (tVar i)) : LO X e (.s i) := ⟨peImp h fun σ H Q ⟨G, ρ, F, Q', R, q, c⟩ => by
  dsimp only [Op1.run] at q
  split at q
  · rename_i l er
    obtain ⟨v, e1⟩ := (R.sl i _ er).some
    exact ⟨v, e1, c _ _ v H F q R (Same.refl _) e1⟩
  · exact False.elim q⟩
def aNil : TAd := fun ρ Q => Q [] ρ
def aCons (o : Op1) (r : TAd) : TAd := fun ρ Q => o.run ρ fun a ρ1 => r ρ1 fun as ρ2 => Q (a :: as) ρ2
theorem LA.nil [Pn] : LA X [] aNil := ⟨paImp pa_nil fun σ H Q ⟨G, ρ, F, Q', R, q, c⟩ => c _ _ _ H F q rfl R (Same.refl _) .nil⟩
theorem LA.cons [Pn] {o : Op1} {r : TAd} (h : LO X e o) (hr : LA X es r) (hs : starEach (e :: es) X.env = (false, eval e X.env) :: starEach es X.env := by rfl) : LA X (e :: es) (aCons o r) :=
  ⟨paImp (pa_cons h.p hr.p hs) fun σ H Q ⟨G, ρ, F, Q', R, q, c⟩ => ⟨G, ρ, F, _, R, q, fun a ρ1 v H1 F1 h1 R1 s1 a1 => ⟨G, ρ1, F1, _, R1, h1, fun as ρ2 vs H2 F2 h2 hl R2 s2 a2 =>
    c _ _ _ H2 F2 h2 (by rw [List.length_cons, List.length_cons, hl]) R2 (s1.trans s2) (.cons (a1.mono s2) a2)⟩⟩⟩
def dTup (t : TAd) : TD := fun ρ Q => t ρ fun as ρ1 => resFA ρ1 as fun xs => Q (.tuple xs) ρ1
def fLst (t : TAd) : TF := fun ρ Q => t ρ fun as ρ1 => resFA ρ1 as fun xs => Q (.ls none xs) ρ1
theorem LD.tup [Pn] {t : TAd} {k : Nat} (h : LA X es t) (hn : es.length ≤ 100000 := by decide) : LD X (.Tuple es k pos) (dTup t) := ⟨peImp (pe_tup h.p) fun σ H Q ⟨G, ρ, F, Q', R, q, c⟩ => ⟨G, ρ, F, _, R, q, fun as ρ1 vs H1 F1 h1 hl R1 s1 a1 => by
  obtain ⟨xs, h2, d⟩ := resFA_df R1 a1 h1
  refine ⟨Nat.le_trans (by rw [← a1.length, hl]; exact hn) (by decide), fun p hp => ?_⟩
  have g := Grow.frozen R1.fh hp (.tup vs)
  exact c _ _ _ _ _ h2 (R1.grow g) (s1.trans g.ff) (.tup (SqT.of upd_same) (d.mono g.ff))⟩⟩
theorem fresh_ok [Pn] {l : Lc} {p : Addr} {o : HO} (R : Rel K G ρ F σ H) (hp : H p = none) (ok : HoOk K F l o) (ht : l.tag = none) (hfp : l.fp = [] := by rfl) : Rel K G ρ F σ (upd H p o) ∧ RsOk K G F (upd H p o) ρ σ l (.ref p) := by
  refine ⟨R.grow (Grow.owned R.fh hp o), ?_⟩
  have h : ∃ a, V.ref p = .ref a ∧ l.tag = none ∧ At K G F (upd H p o) l a ∧ Frs K G F (upd H p o) ρ σ l a := by
    refine ⟨p, rfl, ht, ⟨R.fh.free hp, ?_, o, upd_same, ok⟩, R.noS_free hp, R.noN_free hp, .nil hfp⟩
    rw [ht]; exact R.h0 hp
  cases l with
  | d x => cases o <;> exact False.elim ok
  | sc u => cases o <;> exact False.elim ok
  | _ => exact h
theorem LF.lst [Pn] {t : TAd} (h : LA X es t) (hn : es.length ≤ 100000 := by decide) : LF X (.List es pos) (fLst t) := ⟨peImp (pe_lst h.p) fun σ H Q ⟨G, ρ, F, Q', R, q, c⟩ => ⟨G, ρ, F, _, R, q, fun as ρ1 vs H1 F1 h1 hl R1 s1 a1 => by
  obtain ⟨xs, h2, d⟩ := resFA_df R1 a1 h1
  refine ⟨Nat.le_trans (by rw [← a1.length, hl]; exact hn) (by decide), fun p hp => ?_⟩
  obtain ⟨R2, k⟩ := fresh_ok (l := .ls none xs) (o := .lst vs) R1 hp d rfl
  exact c _ _ _ _ _ h2 R2 s1 k⟩⟩
abbrev F2 := PD → PD → (PD → Prop) → Prop
def Op2Ok (K : PySem.W.Frag) (f : F2) (r : R2) : Prop := ∀ (F H : Hp) (vx vy : V) (x y : PD) (k : PD → Prop) (Q : VK), Same F H → Dr K F H vx x → Dr K F H vy y → f x y k →
  (∀ z v F' H', k z → Grow F H F' H' → Df K F' v z → Q v H') → r vx vy H Q
def dBin (f : F2) (a b : Op1) : TD := fun ρ Q => a.run ρ fun x ρ1 => b.run ρ1 fun y ρ2 => res1 ρ2 x fun x' => res1 ρ2 y fun y' => f x' y' fun z => Q z ρ2
variable {f : F2} {r : R2} {oa ob oc : Op1}
theorem tOp_of [Pn] (hf : Op2Ok K f r) {Q : VK} (h : liftD K (dBin f oa ob) σ H Q) : tOp r (liftO K oa) (liftO K ob) σ H Q := by
  obtain ⟨G, ρ, F, Q', R, q, c⟩ := h
  refine ⟨G, ρ, F, _, R, q, fun a ρ1 vx H1 F1 h1 R1 s1 ax => ⟨G, ρ1, F1, _, R1, h1, fun b ρ2 vy H2 F2 h2 R2 s2 ay => ?_⟩⟩
  obtain ⟨x', h3, dx⟩ := res1_dr R2 (ax.mono s2) h2
  obtain ⟨y', h4, dy⟩ := res1_dr R2 ay h3
  exact hf F2 H2 vx vy x' y' _ Q R2.fh dx dy h4 fun z v F' H' kz g d => c _ _ _ _ _ kz (R2.grow g) ((s1.trans s2).trans g.ff) d
theorem LD.bin [Pn] {op : Operator} (ho : OpR X (binaryOp op) r) (hf : Op2Ok X.K f r) (ha : LO X e oa) (hb : LO X e2 ob) : LD X (.BinOp e op e2 pos) (dBin f oa ob) := ⟨peImp (pe_op ho ha.p hb.p) fun _ _ _ h => tOp_of hf h⟩
theorem LD.cmp [Pn] {op : CmpOp} (ho : OpR X (compareOp op) r) (hf : Op2Ok X.K f r) (ha : LO X e oa) (hb : LO X e2 ob) (hm : behindInMarks op e2 = false) : LD X (.Compare e [op] [e2] pos) (dBin f oa ob) := ⟨peImp (pe_cmpR ho ha.p hb.p hm) fun _ _ _ h => tOp_of hf h⟩
def bAdd : F2
  | .int i, .int j, k => k (.int (i + j))
  | .list xs, .list ys, k => xs.length + ys.length ≤ sizeLine ∧ k (.list (xs ++ ys))
  | .tuple xs, .tuple ys, k => xs ≠ [] ∧ xs.length + ys.length ≤ sizeLine ∧ k (.tuple (xs ++ ys))
  | .str x, .str y, k => x.length + y.length ≤ sizeLine ∧ k (.str (x ++ y))
  | _, _, _ => False
def bSub : F2
  | .int i, .int j, k => k (.int (i - j))
  | _, _, _ => False
def bFdiv : F2
  | .int i, .int j, k => CDivW i j ∧ k (.int (i / j))
  | _, _, _ => False
def bMod : F2
  | .int i, .int j, k => 0 < j ∧ k (.int (i % j))
  | _, _, _ => False
def CPowW (i j : Int) : Prop := 0 ≤ j ∧ (Builtin.Int.intBits i : Int) * j ≤ 2 ^ 27
def bPow : F2
  | .int i, .int j, k => CPowW i j ∧ k (.int (i ^ j.toNat))
  | _, _, _ => False
def bShl : F2
  | .int i, .int j, k => CPow i j ∧ k (.int (i * 2 ^ j.toNat))
  | _, _, _ => False
end
end DL
namespace DL
open PySem L2 PyProof.Rows
section
variable {X : Cx} {K : PySem.W.Frag} {F H : Hp}
theorem rd_list {pins : List (Addr × Obj)} {σ : L2.St} {s : Shared} {l : Addr} {xs : List V} (I : Inv X pins σ H s) (h : Rd H l (.lst xs)) :
    xs.length ≤ sizeLine ∧ ∃ (its : List Value) (n : Nat), Vals xs its ∧ xs.length = its.length ∧ s.heap.get? l = some { cls := .type "list", data := .seq its.toArray n } := by
  have q : ObjOk X.prog X.w H s.heap l (.lst xs) := h.ok I.hok
  obtain ⟨z, its, n, r, e⟩ := q
  exact ⟨z, its, n, r, r.length, e⟩
theorem rdSq {l : Addr} {xs : List V} (h : Rd H l (.lst xs)) : SqL K H l xs := .inl h
def rCatD : R2 := fun x y H Q => ∃ l b xs zs, x = .ref l ∧ y = .ref b ∧ Rd H l (.lst xs) ∧ Rd H b (.lst zs) ∧ xs.length + zs.length ≤ sizeLine ∧ ∀ p, H p = none → Q (.ref p) (upd H p (.lst (xs ++ zs)))
theorem op_catD : OpR X (binaryOp .Add) rCatD := by
  intro pins s σ H x y v u Q I rx ry ⟨l, b, xs, zs, ex, ey, hx, hy, hz, q⟩
  subst ex ey
  cases rx; cases ry
  obtain ⟨z, is1, n, r, hl, e⟩ := rd_list I hx
  obtain ⟨z2, is2, n2, r2, hl2, e2⟩ := rd_list I hy
  have ea : is1.toArray ++ is2.toArray = (is1 ++ is2).toArray := by simp
  refine PySem.P.add_list e e2 ?_ (by simp only [List.size_toArray]; omega)
  simp only [ea]
  refine ⟨.ref _, _, I.lnew (t' := s.toks) (r.append r2) ?_, rfl, q _ I.fresh⟩
  simp only [List.length_append]; exact hz
def rAddD (K : PySem.W.Frag) : R2 := fun x y H Q => rI0 (fun i j => .int (i + j)) x y H Q ∨ rCatD x y H Q ∨ rCatT K x y H Q ∨ (∃ i j, x = .str i ∧ y = .str j ∧ i.length + j.length ≤ sizeLine ∧ Q (.str (i ++ j)) H)
theorem op_addD : OpR X (binaryOp .Add) (rAddD X.K) := op_add.or (op_catD.or (op_catT.or op_add_str))
theorem ok_add : Op2Ok K bAdd (rAddD K) := by
  intro F H vx vy x y k Q s dx dy h c
  unfold bAdd at h
  split at h
  · rename_i i j
    rw [dx.int, dy.int]
    exact .inl ⟨_, _, rfl, rfl, c _ _ F H h (Grow.refl s) (.int _)⟩
  · obtain ⟨a, vs, rfl, q, d⟩ := dx.lst s
    obtain ⟨b, us, rfl, q2, d2⟩ := dy.lst s
    refine .inr (.inl ⟨a, b, vs, us, rfl, rfl, q, q2, by rw [d.length, d2.length]; exact h.1, fun p hp => ?_⟩)
    have g := Grow.frozen s hp (.lst (vs ++ us))
    exact c _ _ _ _ h.2 g (.lst (.inl upd_same) ((d.append d2).mono g.ff))
  · obtain ⟨a, vs, rfl, q, d⟩ := dx.tup s
    obtain ⟨b, us, rfl, q2, d2⟩ := dy.tup s
    obtain ⟨h1, h2, h3⟩ := h
    have ne : vs ≠ [] := fun z => h1 (by have := d.length; rw [z] at this; exact List.length_eq_zero_iff.mp this.symm)
    refine .inr (.inr (.inl ⟨a, b, vs, us, rfl, rfl, q, q2, ne, by rw [d.length, d2.length]; exact h2, ?_, ?_⟩))
    · intro e
      have : us = [] := e
      subst this
      cases d2
      rw [List.append_nil] at h3
      cases dx with
      | f dx => exact c _ _ F H h3 (Grow.refl s) dx
    · intro _ p hp
      have g := Grow.frozen s hp (.tup (vs ++ us))
      exact c _ _ _ _ h3 g (.tup (SqT.of upd_same) ((d.append d2).mono g.ff))
  · rw [dx.str, dy.str]
    exact .inr (.inr (.inr ⟨_, _, rfl, rfl, h.1, c _ _ F H h.2 (Grow.refl s) (.str _)⟩))
  · exact False.elim h
theorem ok_sub : Op2Ok K bSub (rI0 fun i j => .int (i - j)) := by
  intro F H vx vy x y k Q s dx dy h c
  unfold bSub at h
  split at h
  · rw [dx.int, dy.int]
    exact ⟨_, _, rfl, rfl, c _ _ F H h (Grow.refl s) (.int _)⟩
  · exact False.elim h
theorem op_mulI : OpR X (binaryOp .Mult) (rI IntMulOk fun i j => .int (i * j)) := opI fun _ _ _ _ _ _ _ hc q => mul_int q hc
theorem ok_mulI {f : F2} (hf : ∀ x y k, f x y k → ∃ i j, x = .int i ∧ y = .int j ∧ IntMulOk i j ∧ k (.int (i * j))) : Op2Ok K f (rI IntMulOk fun i j => .int (i * j)) := by
  intro F H vx vy x y k Q s dx dy h c
  obtain ⟨i, j, rfl, rfl, h1, h2⟩ := hf _ _ _ h
  rw [dx.int, dy.int]
  exact ⟨_, _, rfl, rfl, h1, c _ _ F H h2 (Grow.refl s) (.int _)⟩
theorem ok_I {f : F2} {C : Int → Int → Prop} {g : Int → Int → Int} (hf : ∀ x y k, f x y k → ∃ i j, x = .int i ∧ y = .int j ∧ C i j ∧ k (.int (g i j))) : Op2Ok K f (rI C fun i j => .int (g i j)) := by
  intro F H vx vy x y k Q s dx dy h c
  obtain ⟨i, j, rfl, rfl, h1, h2⟩ := hf _ _ _ h
  rw [dx.int, dy.int]
  exact ⟨_, _, rfl, rfl, h1, c _ _ F H h2 (Grow.refl s) (.int _)⟩
theorem ok_fdiv : Op2Ok K bFdiv (rI CDivW fun i j => .int (i / j)) := ok_I fun x y k h => by
  unfold bFdiv at h
  split at h
  · exact ⟨_, _, rfl, rfl, h⟩
  · exact False.elim h
theorem ok_mod : Op2Ok K bMod (rI (fun _ j => 0 < j) fun i j => .int (i % j)) := ok_I fun x y k h => by
  unfold bMod at h
  split at h
  · exact ⟨_, _, rfl, rfl, h⟩
  · exact False.elim h
theorem op_powW : OpR X (binaryOp .Pow) (rI CPowW fun i j => .int (i ^ j.toNat)) := opI fun _ _ _ _ _ _ _ hc q => pow_int hc.1 hc.2 q
theorem ok_pow : Op2Ok K bPow (rI CPowW fun i j => .int (i ^ j.toNat)) := ok_I fun x y k h => by
  unfold bPow at h
  split at h
  · exact ⟨_, _, rfl, rfl, h⟩
  · exact False.elim h
theorem ok_shl : Op2Ok K bShl (rI CPow fun i j => .int (i * 2 ^ j.toNat)) := ok_I fun x y k h => by
  unfold bShl at h
  split at h
  · exact ⟨_, _, rfl, rfl, h⟩
  · exact False.elim h
def bMulI : F2
  | .int i, .int j, k => IntMulOk i j ∧ k (.int (i * j))
  | _, _, _ => False
theorem ok_mul : Op2Ok K bMulI (rI IntMulOk fun i j => .int (i * j)) := ok_mulI fun x y k h => by
  unfold bMulI at h
  split at h
  · exact ⟨_, _, rfl, rfl, h⟩
  · exact False.elim h
def shp (d : PD) : Prop := SeqAt.shaped d = true ∧ noDict d = true
def cEq : F2
  | .int i, .int j, k => k (.bool (decide (i = j)))
  | .str a, .str b, k => k (.bool (decide (a = b)))
  | x, y, k => shp x ∧ shp y ∧ k (.bool (PyData.eqv x y))
def cNe : F2
  | .int i, .int j, k => k (.bool (!decide (i = j)))
  | .str a, .str b, k => k (.bool (!decide (a = b)))
  | x, y, k => shp x ∧ shp y ∧ k (.bool (!PyData.eqv x y))
def rEqU (K : PySem.W.Frag) : R2 := fun x y H Q => rEq x y H Q ∨ rEqD K x y H Q
def rNeU (K : PySem.W.Frag) : R2 := fun x y H Q => rNe x y H Q ∨ rNeD K x y H Q
theorem op_eqU (hu : X.A.units + 64 < cLine) : OpR X (compareOp .Eq) (rEqU X.K) := op_eq.or (op_eqD hu)
theorem op_neU (hu : X.A.units + 64 < cLine) : OpR X (compareOp .NotEq) (rNeU X.K) := op_ne.or (op_neD hu)
theorem ok_eq : Op2Ok K cEq (rEqU K) := fun F H vx vy x y k Q s dx dy h c => by
  unfold cEq at h
  split at h
  · rw [dx.int, dy.int]
    refine .inl ⟨rfl, ?_⟩
    have := c _ _ F H h (Grow.refl s) (.bl _)
    simpa using this
  · rw [dx.str, dy.str]
    refine .inl ⟨rfl, ?_⟩
    have := c _ _ F H h (Grow.refl s) (.bl _)
    simpa using this
  · exact .inr ⟨x, y, (dx.df s).dp h.1.2, (dy.df s).dp h.2.1.2, h.1.1, h.2.1.1, c _ _ F H h.2.2 (Grow.refl s) (.bl _)⟩
theorem ok_ne : Op2Ok K cNe (rNeU K) := fun F H vx vy x y k Q s dx dy h c => by
  unfold cNe at h
  split at h
  · rw [dx.int, dy.int]
    refine .inl ⟨rfl, ?_⟩
    have := c _ _ F H h (Grow.refl s) (.bl _)
    simpa using this
  · rw [dx.str, dy.str]
    refine .inl ⟨rfl, ?_⟩
    have := c _ _ F H h (Grow.refl s) (.bl _)
    simpa using this
  · exact .inr ⟨x, y, (dx.df s).dp h.1.2, (dy.df s).dp h.2.1.2, h.1.1, h.2.1.1, c _ _ F H h.2.2 (Grow.refl s) (.bl _)⟩
def cI (p : Int → Int → Bool) : F2
  | .int i, .int j, k => k (.bool (p i j))
  | _, _, _ => False
theorem ok_cI (p : Int → Int → Bool) : Op2Ok K (cI p) (rI0 fun i j => .bl (p i j)) := by
  intro F H vx vy x y k Q s dx dy h c
  unfold cI at h
  split at h
  · rw [dx.int, dy.int]
    exact ⟨_, _, rfl, rfl, c _ _ F H h (Grow.refl s) (.bl _)⟩
  · exact False.elim h
abbrev cLt : F2 := cI fun i j => decide (i < j)
abbrev cLe : F2 := cI fun i j => decide (i ≤ j)
abbrev cGt : F2 := cI fun i j => decide (j < i)
abbrev cGe : F2 := cI fun i j => decide (j ≤ i)
def isNone : PD → Bool
  | .none => true
  | _ => false
def flatD : PD → Bool
  | .none => true
  | .bool _ => true
  | .int _ => true
  | .str _ => true
  | _ => false
theorem flat_v {v : V} {x : PD} (h : Df K F v x) (f : flatD x = true) : flatV v = true ∧ ∀ {u : V} {y : PD}, Df K F u y → flatD y = true → eqV v u = PyData.eqv x y := by
  cases h <;> simp [flatD] at f <;> refine ⟨rfl, fun {u y} g fy => ?_⟩ <;> cases g <;> first | (simp [flatD] at fy; done) | rfl | (simp [eqV, PyData.eqv])
theorem Dr.flat {v : V} {x : PD} (h : Dr K F H v x) (f : flatD x = true) : Df K F v x := by
  cases h with
  | f h => exact h
  | l _ _ => simp [flatD] at f
  | k _ _ => simp [flatD] at f
def itemsD : PD → Option (List PD)
  | .list xs => some xs
  | .tuple xs => some xs
  | _ => none
def cIn (neg : Bool) : F2 := fun x y k => flatD x = true ∧ ∃ ys, itemsD y = some ys ∧ ys.all flatD = true ∧ k (.bool (if neg then !(ys.any fun z => PyData.eqv z x) else ys.any fun z => PyData.eqv z x))
theorem flat_all {vs : List V} {ys : List PD} (h : DfA K F vs ys) (f : ys.all flatD = true) : vs.all flatV = true ∧ ∀ {u : V} {y : PD}, Df K F u y → flatD y = true → (vs.any fun z => eqV z u) = ys.any fun z => PyData.eqv z y := by
  induction vs generalizing ys with
  | nil => cases h; exact ⟨rfl, fun _ _ => rfl⟩
  | cons v vs ih =>
    cases h with
    | cons a b =>
      rw [List.all_cons, Bool.and_eq_true] at f
      obtain ⟨h1, h2⟩ := flat_v a f.1
      obtain ⟨h3, h4⟩ := ih b f.2
      refine ⟨by rw [List.all_cons, h1, h3]; rfl, fun {u y} g fy => ?_⟩
      rw [List.any_cons, List.any_cons, h2 g fy, h4 g fy]
theorem ok_in (neg : Bool) : Op2Ok K (cIn neg) (rIn K neg) := by
  intro F H vx vy x y k Q s dx dy ⟨fx, ys, ey, fy, h⟩ c
  have dx' := dx.flat fx
  obtain ⟨b, vs, rfl, q, d⟩ : ∃ b vs, vy = .ref b ∧ (SqL K H b vs ∨ SqT K H b vs) ∧ DfA K F vs ys := by
    cases y <;> simp [itemsD] at ey
    · subst ey
      obtain ⟨b, vs, e, q, d⟩ := dy.lst s
      exact ⟨b, vs, e, .inl (rdSq q), d⟩
    · subst ey
      obtain ⟨b, vs, e, q, d⟩ := dy.tup s
      exact ⟨b, vs, e, .inr q, d⟩
  obtain ⟨a1, a2⟩ := flat_all d fy
  refine ⟨b, vs, rfl, q, (flat_v dx' fx).1, a1, ?_⟩
  have e := a2 dx' fx
  unfold inV
  rw [e]
  exact c _ _ F H h (Grow.refl s) (.bl _)
end
end DL
namespace DL
open PySem L2 PyProof.Rows
section
variable {G : Gm} {X : Cx} {K : PySem.W.Frag} {F F' H H' : Hp} {ρ : En} {σ : L2.St} {e e2 e3 : Expr} {es : List Expr} {pos : Pos} {r r' : R2} {f f' : F2} {oa ob oc : Op1} {ta tb tc : TD} {t u : TTd}
def dNeg (o : Op1) : TD := fun ρ Q => o.run ρ fun a ρ1 => res1 ρ1 a fun x => match x with
  | .int i => Q (.int (-i)) ρ1
  | _ => False
theorem LD.neg [Pn] (h : LO X e oa) : LD X (.UnaryOp .USub e pos) (dNeg oa) := ⟨peImp (pe_un un_neg h.p) fun σ H Q ⟨G, ρ, F, Q', R, q, c⟩ => ⟨G, ρ, F, _, R, q, fun a ρ1 v H1 F1 h1 R1 s1 av => by
  obtain ⟨x, h2, d⟩ := res1_dr R1 av h1
  split at h2
  · rw [d.int]
    exact ⟨_, rfl, c _ _ _ _ _ h2 R1 s1 (.int _)⟩
  · exact False.elim h2⟩⟩
def tVal (t : TD) : TTd := fun ρ Q => t ρ fun x ρ1 => match x with
  | .bool b => Q b ρ1
  | _ => False
theorem LT.val [Pn] (h : LD X e ta) (he : ∀ whole, isTrue e X.env whole = (do let v ← whole; standAt e.pos; holding [v] (truthy v)) := by intro _; rfl) : LT X e (tVal ta) := ⟨ptImp (pt_val h.p he) fun σ H Q ⟨G, ρ, F, Q', R, q, c⟩ => ⟨G, ρ, F, _, R, q, fun x ρ1 v H1 F1 h1 R1 s1 d => by
  split at h1
  · cases d
    exact ⟨_, rfl, c _ _ _ _ h1 R1 s1⟩
  · exact False.elim h1⟩⟩
def brB (b : Bool) (p q : Prop) : Prop := (b = true → p) ∧ (b = false → q)
def tAndD (t u : TTd) : TTd := fun ρ Q => t ρ fun b ρ1 => brB b (u ρ1 Q) (Q false ρ1)
def tOrD (t u : TTd) : TTd := fun ρ Q => t ρ fun b ρ1 => brB b (Q true ρ1) (u ρ1 Q)
def tNotD (t : TTd) : TTd := fun ρ Q => t ρ fun b ρ1 => Q (!b) ρ1
theorem LW.and1 [Pn] (h : LT X e t) : LW X (.BoolOp .And [e] pos) t := ⟨pw_and1 h.p⟩
theorem LW.or1 [Pn] (h : LT X e t) : LW X (.BoolOp .Or [e] pos) t := ⟨pw_or1 h.p⟩
theorem LW.and [Pn] (h : LT X e t) (h2 : LW X (.BoolOp .And (e2 :: es) pos) u) : LW X (.BoolOp .And (e :: e2 :: es) pos) (tAndD t u) := ⟨pwImp (pw_and h.p h2.p) fun σ H Q ⟨G, ρ, F, Q', R, q, c⟩ => ⟨G, ρ, F, _, R, q, fun b ρ1 H1 F1 h1 R1 s1 => by
  cases b with
  | true => exact ⟨G, ρ1, F1, Q', R1, h1.1 rfl, fun b ρ2 H2 F2 h2 R2 s2 => c _ _ _ _ h2 R2 (s1.trans s2)⟩
  | false => exact c _ _ _ _ (h1.2 rfl) R1 s1⟩⟩
theorem LW.or [Pn] (h : LT X e t) (h2 : LW X (.BoolOp .Or (e2 :: es) pos) u) : LW X (.BoolOp .Or (e :: e2 :: es) pos) (tOrD t u) := ⟨pwImp (pw_or h.p h2.p) fun σ H Q ⟨G, ρ, F, Q', R, q, c⟩ => ⟨G, ρ, F, _, R, q, fun b ρ1 H1 F1 h1 R1 s1 => by
  cases b with
  | false => exact ⟨G, ρ1, F1, Q', R1, h1.2 rfl, fun b ρ2 H2 F2 h2 R2 s2 => c _ _ _ _ h2 R2 (s1.trans s2)⟩
  | true => exact c _ _ _ _ (h1.1 rfl) R1 s1⟩⟩
theorem LT.w [Pn] (h : LW X e t) : LT X e t := ⟨h.p.pt⟩
theorem LT.not [Pn] (h : LT X e t) : LT X (.UnaryOp .Not e pos) (tNotD t) := ⟨ptImp (pt_not h.p) fun σ H Q ⟨G, ρ, F, Q', R, q, c⟩ => ⟨G, ρ, F, _, R, q, fun b ρ1 H1 F1 h1 R1 s1 => c _ _ _ _ h1 R1 s1⟩⟩
def dAnd (ta tb : TD) : TD := fun ρ Q => ta ρ fun x ρ1 => match x with
  | .bool b => brB b (tb ρ1 Q) (Q (.bool false) ρ1)
  | _ => False
def dOr (ta tb : TD) : TD := fun ρ Q => ta ρ fun x ρ1 => match x with
  | .bool b => brB b (Q (.bool true) ρ1) (tb ρ1 Q)
  | _ => False
def dNot (ta : TD) : TD := fun ρ Q => ta ρ fun x ρ1 => match x with
  | .bool b => Q (.bool (!b)) ρ1
  | _ => False
theorem LD.one [Pn] {op : BoolOp} (h : LD X e ta) : LD X (.BoolOp op [e] pos) ta := ⟨pe_one h.p⟩
theorem LD.and [Pn] (h : LD X e ta) (h2 : LD X (.BoolOp .And (e2 :: es) pos) tb) : LD X (.BoolOp .And (e :: e2 :: es) pos) (dAnd ta tb) := ⟨peImp (pe_and h.p h2.p) fun σ H Q ⟨G, ρ, F, Q', R, q, c⟩ => ⟨G, ρ, F, _, R, q, fun x ρ1 v H1 F1 h1 R1 s1 d => by
  split at h1
  · rename_i b
    cases d
    refine ⟨b, rfl, ?_⟩
    cases b with
    | true => exact ⟨G, ρ1, F1, Q', R1, h1.1 rfl, fun x ρ2 v H2 F2 h2 R2 s2 d => c _ _ _ _ _ h2 R2 (s1.trans s2) d⟩
    | false => exact c _ _ _ _ _ (h1.2 rfl) R1 s1 (.bl _)
  · exact False.elim h1⟩⟩
theorem LD.or [Pn] (h : LD X e ta) (h2 : LD X (.BoolOp .Or (e2 :: es) pos) tb) : LD X (.BoolOp .Or (e :: e2 :: es) pos) (dOr ta tb) := ⟨peImp (pe_or h.p h2.p) fun σ H Q ⟨G, ρ, F, Q', R, q, c⟩ => ⟨G, ρ, F, _, R, q, fun x ρ1 v H1 F1 h1 R1 s1 d => by
  split at h1
  · rename_i b
    cases d
    refine ⟨b, rfl, ?_⟩
    cases b with
    | false => exact ⟨G, ρ1, F1, Q', R1, h1.2 rfl, fun x ρ2 v H2 F2 h2 R2 s2 d => c _ _ _ _ _ h2 R2 (s1.trans s2) d⟩
    | true => exact c _ _ _ _ _ (h1.1 rfl) R1 s1 (.bl _)
  · exact False.elim h1⟩⟩
theorem LD.not [Pn] (h : LD X e ta) : LD X (.UnaryOp .Not e pos) (dNot ta) := ⟨peImp (pe_not h.p) fun σ H Q ⟨G, ρ, F, Q', R, q, c⟩ => ⟨G, ρ, F, _, R, q, fun x ρ1 v H1 F1 h1 R1 s1 d => by
  split at h1
  · cases d
    exact ⟨_, rfl, c _ _ _ _ _ h1 R1 s1 (.bl _)⟩
  · exact False.elim h1⟩⟩
def dIte (t : TTd) (ta tb : TD) : TD := fun ρ Q => t ρ fun b ρ1 => brB b (ta ρ1 Q) (tb ρ1 Q)
theorem LD.ite [Pn] (h : LT X e t) (h2 : LD X e2 ta) (h3 : LD X e3 tb) : LD X (.IfExp e e2 e3 pos) (dIte t ta tb) := ⟨peImp (pe_ifExp h.p h2.p h3.p) fun σ H Q ⟨G, ρ, F, Q', R, q, c⟩ => ⟨G, ρ, F, _, R, q, fun b ρ1 H1 F1 h1 R1 s1 => by
  cases b with
  | true => exact ⟨G, ρ1, F1, Q', R1, h1.1 rfl, fun x ρ2 v H2 F2 h2 R2 s2 d => c _ _ _ _ _ h2 R2 (s1.trans s2) d⟩
  | false => exact ⟨G, ρ1, F1, Q', R1, h1.2 rfl, fun x ρ2 v H2 F2 h2 R2 s2 d => c _ _ _ _ _ h2 R2 (s1.trans s2) d⟩⟩⟩
def dChain (p p' : Int → Int → Bool) (oa ob oc : Op1) : TD := fun ρ Q => oa.run ρ fun a ρ1 => ob.run ρ1 fun b ρ2 => res1 ρ2 a fun x => res1 ρ2 b fun y => match x, y with
  | .int i, .int j => brB (p i j) (oc.run ρ2 fun cc ρ3 => res1 ρ3 cc fun z => (match z with
    | .int k => Q (.bool (p' j k)) ρ3
    | _ => False)) (Q (.bool false) ρ2)
  | _, _ => False
theorem tChain_of [Pn] {p p' : Int → Int → Bool} {Q : VK} (h : liftD K (dChain p p' oa ob oc) σ H Q) : tChain (rI0 fun i j => .bl (p i j)) (rI0 fun i j => .bl (p' i j)) (liftO K oa) (liftO K ob) (liftO K oc) σ H Q :=
  let ⟨G, ρ, F, Q', R, q, c⟩ := h
  ⟨G, ρ, F, _, R, q, fun a ρ1 vx H1 F1 h1 R1 s1 ax => ⟨G, ρ1, F1, _, R1, h1, fun b ρ2 vy H2 F2 h2 R2 s2 ay => by
    obtain ⟨x, h3, dx⟩ := res1_dr R2 (ax.mono s2) h2
    obtain ⟨y, h4, dy⟩ := res1_dr R2 ay h3
    split at h4
    · rename_i i j
      rw [dx.int, dy.int]
      refine ⟨i, j, rfl, rfl, _, rfl, ?_⟩
      cases hp : p i j with
      | true =>
        replace h4 := h4.1 hp
        refine iteT ⟨G, ρ2, F2, _, R2, h4, fun cc ρ3 vz H3 F3 h5 R3 s3 az => ?_⟩
        obtain ⟨z, h6, dz⟩ := res1_dr R3 az h5
        split at h6
        · rw [dz.int]
          exact ⟨_, _, rfl, rfl, c _ _ _ _ _ h6 R3 ((s1.trans s2).trans s3) (.bl _)⟩
        · exact False.elim h6
      | false =>
        replace h4 := h4.2 hp
        exact iteF (c _ _ _ _ _ h4 R2 (s1.trans s2) (.bl _))
    · exact False.elim h4⟩⟩
theorem LD.chain [Pn] {op op' : CmpOp} {p p' : Int → Int → Bool} (ho : OpR X (compareOp op) (rI0 fun i j => .bl (p i j))) (ho' : OpR X (compareOp op') (rI0 fun i j => .bl (p' i j))) (ha : LO X e oa) (hb : LO X e2 ob) (hc : LO X e3 oc)
    (hm : lastMarks [op, op'] [e2, e3] = false := by with_unfolding_all rfl) : LD X (.Compare e [op, op'] [e2, e3] pos) (dChain p p' oa ob oc) :=
  ⟨peImp (pe_chain ho ho' ha.p hb.p hc.p hm) fun _ _ _ h => tChain_of h⟩
abbrev FN := List PD → (PD → Prop) → Prop
def BiOk (K : PySem.W.Frag) (f : FN) (r : List V → Hp → VK → Prop) : Prop := ∀ (F H : Hp) (vs : List V) (xs : List PD) (k : PD → Prop) (Q : VK), Same F H → DrA K F H vs xs → f xs k →
  (∀ z v F' H', k z → Grow F H F' H' → Df K F' v z → Q v H') → r vs H Q
def dBi (f : FN) (t : TAd) : TD := fun ρ Q => t ρ fun as ρ1 => resA ρ1 as fun xs => f xs fun z => Q z ρ1
variable {g : FN} {rr : List V → Hp → VK → Prop} {tt : TAd} {x : Str} {p : Pos} {bid T : String}
theorem tCB_of [Pn] (hf : BiOk K g rr) {n : Nat} {Q : VK} (h : liftD K (dBi g tt) σ H Q) : tCB rr (liftA K n tt) σ H Q := by
  obtain ⟨G, ρ, F, Q', R, q, c⟩ := h
  refine ⟨G, ρ, F, _, R, q, fun as ρ1 vs H1 F1 h1 hl R1 s1 av => ?_⟩
  obtain ⟨xs, h2, d⟩ := resA_dr R1 av h1
  exact hf F1 H1 vs xs _ Q R1.fh d h2 fun z v F' H' kz g' d' => c _ _ _ _ _ kz (R1.grow g') (s1.trans g'.ff) d'
theorem LD.bi [Pn] (hc : CallR X (.builtin bid) rr) (hf : BiOk X.K g rr) (hg : Gl X x) (hm : X.mg x = none) (hv : bootBuiltins x = some (.builtin bid)) (ha : LA X (e :: es) tt) (hn : x ≠ "__name__" := by decide) (hdb : (x == ("__debug__" : Str)) = false := by decide)
    (he : starEach (e :: es) X.env = (false, eval e X.env) :: starEach es X.env := by rfl) (hpl : (backTo pos (starEach es X.env)).any (·.1) = false := by rfl) :
    LD X (.Call (.Name x p) (e :: es) [] pos) (dBi g tt) := ⟨peImp (pe_callB hc hg hm hv ha.p hn hdb he hpl) fun _ _ _ h => tCB_of hf h⟩
theorem LD.bt [Pn] (hc : CallR X (.type T) rr) (hf : BiOk X.K g rr) (hg : Gl X x) (hm : X.mg x = none) (hv : bootBuiltins x = some (.type T)) (ha : LA X (e :: es) tt) (hn : x ≠ "__name__" := by decide) (hdb : (x == ("__debug__" : Str)) = false := by decide)
    (he : starEach (e :: es) X.env = (false, eval e X.env) :: starEach es X.env := by rfl) (hpl : (backTo pos (starEach es X.env)).any (·.1) = false := by rfl) :
    LD X (.Call (.Name x p) (e :: es) [] pos) (dBi g tt) := ⟨peImp (pe_callTy hc hg hm hv ha.p hn hdb he hpl) fun _ _ _ h => tCB_of hf h⟩
theorem DrA.one {vs : List V} {x : PD} (h : DrA K F H vs [x]) : ∃ v, vs = [v] ∧ Dr K F H v x := by
  cases h with | cons a b => cases b; exact ⟨_, rfl, a⟩
theorem DrA.two {vs : List V} {x y : PD} (h : DrA K F H vs [x, y]) : ∃ v u, vs = [v, u] ∧ Dr K F H v x ∧ Dr K F H u y := by
  cases h with | cons a b => cases b with | cons b c => cases c; exact ⟨_, _, rfl, a, b⟩
def bLen : FN
  | [.list xs], k => k (.int (xs.length : Int))
  | [.tuple xs], k => k (.int (xs.length : Int))
  | [.str s], k => s.length ≤ sizeLine ∧ k (.int (s.length : Int))
  | _, _ => False
def rLenD (K : PySem.W.Frag) : List V → Hp → VK → Prop := fun xs H Q => (∃ p ys, xs = [.ref p] ∧ (SqL K H p ys ∨ SqT K H p ys) ∧ Q (.int ys.length) H) ∨ (∃ z, xs = [.str z] ∧ z.length ≤ sizeLine ∧ Q (.int z.length) H)
theorem call_lenU : CallR X (.builtin "len") (rLenD X.K) := fun pins s σ H xs us Q I r h => h.elim (fun h => call_len_seq pins s σ H xs us Q I r h) fun h => call_len_str pins s σ H xs us Q I r h
theorem ok_len : BiOk K bLen (rLenD K) := by
  intro F H vs xs k Q s d h c
  unfold bLen at h
  split at h
  · obtain ⟨v, rfl, d1⟩ := d.one
    obtain ⟨a, us, rfl, q, d3⟩ := d1.lst s
    refine .inl ⟨a, us, rfl, .inl (rdSq q), ?_⟩
    rw [d3.length]
    exact c _ _ F H h (Grow.refl s) (.int _)
  · obtain ⟨v, rfl, d1⟩ := d.one
    obtain ⟨a, us, rfl, q, d3⟩ := d1.tup s
    refine .inl ⟨a, us, rfl, .inr q, ?_⟩
    rw [d3.length]
    exact c _ _ F H h (Grow.refl s) (.int _)
  · obtain ⟨v, rfl, d1⟩ := d.one
    rw [d1.str]
    exact .inr ⟨_, rfl, h.1, c _ _ F H h.2 (Grow.refl s) (.int _)⟩
  · exact False.elim h
def bAbs : FN
  | [.int i], k => k (.int (if i < 0 then -i else i))
  | _, _ => False
theorem ok_abs : BiOk K bAbs (fun xs H Q => ∃ i, xs = [.int i] ∧ Q (.int (if i < 0 then -i else i)) H) := by
  intro F H vs xs k Q s d h c
  unfold bAbs at h
  split at h
  · obtain ⟨v, rfl, d1⟩ := d.one
    rw [d1.int]
    exact ⟨_, rfl, c _ _ F H h (Grow.refl s) (.int _)⟩
  · exact False.elim h
def bInt : FN
  | [.int i], k => k (.int i)
  | [.bool b], k => k (.int (if b then 1 else 0))
  | _, _ => False
theorem ok_int : BiOk K bInt (fun xs H Q => (∃ i, xs = [.int i] ∧ Q (.int i) H) ∨ ∃ k, xs = [.bl k] ∧ Q (.int (if k then 1 else 0)) H) := by
  intro F H vs xs k Q s d h c
  unfold bInt at h
  split at h
  · obtain ⟨v, rfl, d1⟩ := d.one
    rw [d1.int]
    exact .inl ⟨_, rfl, c _ _ F H h (Grow.refl s) (.int _)⟩
  · obtain ⟨v, rfl, d1⟩ := d.one
    rw [d1.bl]
    exact .inr ⟨_, rfl, c _ _ F H h (Grow.refl s) (.int _)⟩
  · exact False.elim h
def bMax2 : FN
  | [.int i, .int j], k => k (.int (if j > i then j else i))
  | _, _ => False
theorem ok_max2 : BiOk K bMax2 (fun xs H Q => ∃ i j, xs = [.int i, .int j] ∧ Q (.int (if j > i then j else i)) H) := by
  intro F H vs xs k Q s d h c
  unfold bMax2 at h
  split at h
  · obtain ⟨v, u, rfl, d1, d2⟩ := d.two
    rw [d1.int, d2.int]
    exact ⟨_, _, rfl, c _ _ F H h (Grow.refl s) (.int _)⟩
  · exact False.elim h
def bSum : FN
  | [.list xs], k => ∃ ns : List Int, xs = ns.map .int ∧ k (.int ns.sum)
  | _, _ => False
theorem dfa_ints {vs : List V} {ns : List Int} (h : DfA K F vs (ns.map .int)) : vs = ns.map V.int := by
  induction ns generalizing vs with
  | nil => cases h; rfl
  | cons n r ih =>
    cases h with
    | cons a b => cases a; rw [ih b]; rfl
theorem Dr.intList {v : V} {ns : List Int} (s : Same F H) (h : Dr K F H v (.list (ns.map .int))) : ∃ a, v = .ref a ∧ SqL K H a (ns.map V.int) := by
  obtain ⟨a, vs, rfl, q, d⟩ := h.lst s
  rw [dfa_ints d] at q
  exact ⟨a, rfl, rdSq q⟩
theorem ok_sum : BiOk K bSum (rSum K) := by
  intro F H vs xs k Q s d h c
  unfold bSum at h
  split at h
  · obtain ⟨v, rfl, d1⟩ := d.one
    obtain ⟨ns, rfl, h⟩ := h
    obtain ⟨a, rfl, q⟩ := d1.intList s
    exact ⟨a, ns, rfl, q, c _ _ F H h (Grow.refl s) (.int _)⟩
  · exact False.elim h
def bTuple : FN
  | [.list xs], k => k (.tuple xs)
  | [.tuple xs], k => k (.tuple xs)
  | _, _ => False
theorem ok_tuple : BiOk K bTuple (fun xs H Q => ∃ p ys, xs = [.ref p] ∧ ((SqL K H p ys ∧ ∀ l, H l = none → Q (.ref l) (upd H l (.tup ys))) ∨ (SqT K H p ys ∧ Q (.ref p) H))) := by
  intro F H vs xs k Q s d h c
  unfold bTuple at h
  split at h
  · obtain ⟨v, rfl, d1⟩ := d.one
    obtain ⟨a, us, rfl, q, d3⟩ := d1.lst s
    refine ⟨a, us, rfl, .inl ⟨rdSq q, fun l hl => ?_⟩⟩
    have g := Grow.frozen s hl (.tup us)
    exact c _ _ _ _ h g (.tup (SqT.of upd_same) (d3.mono g.ff))
  · obtain ⟨v, rfl, d1⟩ := d.one
    obtain ⟨a, us, rfl, q, d3⟩ := d1.tup s
    cases d1 with
    | f d => exact ⟨a, us, rfl, .inr ⟨q, c _ _ F H h (Grow.refl s) d⟩⟩
  · exact False.elim h
def fList (t : TAd) : TF := fun ρ Q => t ρ fun as ρ1 => resA ρ1 as fun xs => match xs with
  | [.list ys] => Q (.ls none ys) ρ1
  | [.tuple ys] => Q (.ls none ys) ρ1
  | _ => False
theorem LF.list [Pn] (hg : Gl X "list") (hm : X.mg "list" = none) (ha : LA X (e :: es) tt)
    (he : starEach (e :: es) X.env = (false, eval e X.env) :: starEach es X.env := by rfl) (hpl : (backTo pos (starEach es X.env)).any (·.1) = false := by rfl) :
    LF X (.Call (.Name "list" p) (e :: es) [] pos) (fList tt) := ⟨peImp (pe_callTy call_list_of hg hm (by decide +kernel) ha.p (by decide) (by decide) he hpl) fun σ H Q ⟨G, ρ, F, Q', R, q, c⟩ => ⟨G, ρ, F, _, R, q, fun as ρ1 vs H1 F1 h1 hl R1 s1 av => by
  obtain ⟨xs, h2, d⟩ := resA_dr R1 av h1
  split at h2
  · obtain ⟨v, rfl, d1⟩ := d.one
    obtain ⟨a, us, rfl, q, d3⟩ := d1.lst R1.fh
    refine ⟨a, us, rfl, .inl (rdSq q), fun l hl => ?_⟩
    obtain ⟨R2, k⟩ := fresh_ok (l := .ls none _) (o := .lst us) R1 hl d3 rfl
    exact c _ _ _ _ _ h2 R2 s1 k
  · obtain ⟨v, rfl, d1⟩ := d.one
    obtain ⟨a, us, rfl, q, d3⟩ := d1.tup R1.fh
    refine ⟨a, us, rfl, .inr q, fun l hl => ?_⟩
    obtain ⟨R2, k⟩ := fresh_ok (l := .ls none _) (o := .lst us) R1 hl d3 rfl
    exact c _ _ _ _ _ h2 R2 s1 k
  · exact False.elim h2⟩⟩
def isTy (T : String) : PD → Bool
  | .none => false
  | .bool _ => T == "bool" || T == "int"
  | .int _ => T == "int"
  | .str _ => T == "str"
  | .list _ => T == "list"
  | .tuple _ => T == "tuple"
  | .dict _ => false
def tyD : PD → String
  | .none => "NoneType"
  | .bool _ => "bool"
  | .int _ => "int"
  | .str _ => "str"
  | .list _ => "list"
  | .tuple _ => "tuple"
  | .dict _ => "dict"
def plainD : PD → Bool
  | .dict _ => false
  | _ => true
def dIsi (T : String) (o : Op1) : TD := fun ρ Q => o.run ρ fun a ρ1 => res1 ρ1 a fun x => plainD x = true ∧ Q (.bool (isTy T x)) ρ1
theorem tyx_of {v : V} {x : PD} (h : Df K H v x) (hd : plainD x = true) : TyX K H v (.type (tyD x)) := by
  cases h with
  | non => exact .base .non
  | bl b => exact .base (.bl b)
  | int i => exact .base (.int i)
  | str i => exact .base (.str i)
  | lst q _ =>
    rcases q with q | ⟨o, q⟩
    · exact .base (.lst q)
    · exact .base (.frz q)
  | tup q _ =>
    rcases q with (q | ⟨o, q⟩) | ⟨o, its, n, q, cl, _⟩
    · exact .base (.tup q)
    · exact .fTuple q
    · exact .kTuple q cl
  | dk _ _ => cases hd
  | ins _ _ => cases hd
  | ex0 => cases hd
  | ex1 _ _ => cases hd
  | dkL _ _ => cases hd
  | ky _ => cases hd
theorem kit_all {x : PD} {T : String} (hT : T = "int" ∨ T = "bool" ∨ T = "str" ∨ T = "tuple" ∨ T = "list") (hd : plainD x = true) : PySem.W.kitOne K (.type (tyD x)) (.type T) = some (isTy T x) := by
  refine kit_ty ?_
  cases x <;> first | (cases hd; done) | skip
  all_goals (rcases hT with rfl | rfl | rfl | rfl | rfl <;> (dsimp only [tyD, isTy]; decide +kernel))
theorem LD.isi [Pn] {y : Str} {p2 : Pos} (T : String) (hT : T = "int" ∨ T = "bool" ∨ T = "str" ∨ T = "tuple" ∨ T = "list") (hg : Gl X "isinstance") (hm : X.mg "isinstance" = none) (hgT : Gl X y) (hmT : X.mg y = none) (hvT : bootBuiltins y = some (.type T)) (h : LO X e oa)
    (he : starEach [e, .Name y p2] X.env = (false, eval e X.env) :: starEach [.Name y p2] X.env := by rfl) (hpl : (backTo pos (starEach [.Name y p2] X.env)).any (·.1) = false := by rfl) (he2 : starEach [.Name y p2] X.env = (false, eval (.Name y p2) X.env) :: starEach [] X.env := by rfl)
    (hn : y ≠ "__name__" := by decide) (hdb : (y == ("__debug__" : Str)) = false := by decide) :
    LD X (.Call (.Name "isinstance" p) [e, .Name y p2] [] pos) (dIsi T oa) :=
  ⟨peImp (pe_callB call_isi hg hm (by decide +kernel) (pa_cons h.p (pa_cons (pe_bltn (v := .ty T) hgT hmT hvT rfl hn hdb) pa_nil he2) he) (by decide) (by decide) he hpl) fun σ H Q ⟨G, ρ, F, Q', R, q, c⟩ => ⟨G, ρ, F, _, R, q, fun a ρ1 v H1 F1 h1 R1 s1 av => by
    obtain ⟨x, ⟨hd, h2⟩, d⟩ := res1_dr R1 av h1
    exact ⟨v, .ty T, _, _, _, rfl, .ty T, tyx_of (d.df R1.fh) hd, kit_all hT hd, c _ _ _ _ _ h2 R1 s1 (.bl _)⟩⟩⟩
def bIx : F2
  | .list xs, .int i, k => ∃ d, atI xs i = some d ∧ k d
  | .tuple xs, .int i, k => ∃ d, atI xs i = some d ∧ k d
  | .str z, .int i, k => z.length ≤ sizeLine ∧ ∃ c, atI z.cps.toList i = some c ∧ k (.str ⟨#[c]⟩)
  | _, _, _ => False
theorem atI_df {vs : List V} {xs : List PD} {d : PD} {i : Int} (h : DfA K F vs xs) (e : atI xs i = some d) : ∃ v, atI vs i = some v ∧ Df K F v d := by
  unfold atI at e ⊢
  rw [h.length]
  cases q : ixN xs.length i with
  | none => rw [q] at e; cases e
  | some j =>
    rw [q] at e
    obtain ⟨v, h1, h2⟩ := h.get (i := j) e
    exact ⟨v, h1, h2⟩
theorem ok_ix : Op2Ok K bIx (rIx K) := by
  intro F H vx vy x y k Q s dx dy h c
  unfold bIx at h
  split at h
  · obtain ⟨a, vs, rfl, q, d⟩ := dx.lst s
    obtain ⟨z, h1, h2⟩ := h
    obtain ⟨v, h3, h4⟩ := atI_df d h1
    rw [dy.int]
    exact .inl ⟨a, vs, _, v, rfl, rfl, rdSq q, h3, c _ _ F H h2 (Grow.refl s) h4⟩
  · obtain ⟨a, vs, rfl, q, d⟩ := dx.tup s
    obtain ⟨z, h1, h2⟩ := h
    obtain ⟨v, h3, h4⟩ := atI_df d h1
    rw [dy.int]
    exact .inr (.inl ⟨a, vs, _, v, rfl, rfl, q, h3, c _ _ F H h2 (Grow.refl s) h4⟩)
  · obtain ⟨h0, z, h1, h2⟩ := h
    rw [dx.str, dy.int]
    exact .inr (.inr ⟨_, _, z, rfl, rfl, h0, h1, c _ _ F H h2 (Grow.refl s) (.str _)⟩)
  · exact False.elim h
theorem LD.ix [Pn] (ha : LO X e oa) (hb : LO X e2 ob) (hs : PlainIx e2) : LD X (.Subscript e e2 pos) (dBin bIx oa ob) := ⟨peImp (pe_ix ix_seq ha.p hb.p hs) fun _ _ _ h => tOp_of ok_ix h⟩
abbrev TPd := En → (Option Int → En → Prop) → Prop
def pNone : TPd := fun ρ Q => Q none ρ
def pSome (o : Op1) : TPd := fun ρ Q => o.run ρ fun a ρ1 => res1 ρ1 a fun x => match x with
  | .int i => Q (some i) ρ1
  | _ => False
def liftP [Pn] (K : PySem.W.Frag) (t : TPd) : TO := fun σ H Q => ∃ G ρ F Q', Rel K G ρ F σ H ∧ t ρ Q' ∧ ∀ i ρ' H' F', Q' i ρ' → Rel K G ρ' F' σ H' → Same F F' → Q i H'
structure LP [Pn] (X : Cx) (e : Option Expr) (t : TPd) : Prop where
  p : PO X e (liftP X.K t)
theorem poImp {e : Option Expr} {t t' : TO} (h : PO X e t) (w : ∀ σ H Q, t' σ H Q → t σ H Q) : PO X e t' := ⟨fun pins s σ H Q I q => h.run pins s σ H Q I (w _ _ _ q)⟩
theorem LP.none [Pn] : LP X none pNone := ⟨poImp po_none fun σ H Q ⟨G, ρ, F, Q', R, q, c⟩ => c _ _ _ F q R (Same.refl _)⟩
theorem LP.some [Pn] (h : LO X e oa) : LP X (some e) (pSome oa) := ⟨poImp (po_some h.p) fun σ H Q ⟨G, ρ, F, Q', R, q, c⟩ => ⟨G, ρ, F, _, R, q, fun a ρ1 v H1 F1 h1 R1 s1 av => by
  obtain ⟨x, h2, d⟩ := res1_dr R1 av h1
  split at h2
  · rw [d.int]
    exact ⟨_, rfl, c _ _ _ _ h2 R1 s1⟩
  · exact False.elim h2⟩⟩
def cutD {α : Type} (xs : List α) (lo hi : Option Int) : List α := (xs.drop (HT.sIx xs.length 0 lo)).take (HT.sIx xs.length xs.length hi - HT.sIx xs.length 0 lo)
def dSl (oa : Op1) (lo hi : TPd) : TD := fun ρ Q => oa.run ρ fun a ρ1 => lo ρ1 fun i ρ2 => hi ρ2 fun j ρ3 => res1 ρ3 a fun x => match x with
  | .list xs => Q (.list (cutD xs i j)) ρ3
  | .tuple xs => Q (.tuple (cutD xs i j)) ρ3
  | .str z => z.length ≤ sizeLine ∧ Q (.str (cutS z i j)) ρ3
  | _ => False
theorem cut_df {vs : List V} {xs : List PD} (h : DfA K F vs xs) (i j : Option Int) : DfA K F (cutV vs i j) (cutD xs i j) := by
  unfold cutV cutD
  rw [h.length]
  exact (h.drop _).take _
theorem cut_whole {α : Type} {xs : List α} {i j : Option Int} (h : HT.sIx xs.length 0 i = 0 ∧ HT.sIx xs.length xs.length j = xs.length) : cutD xs i j = xs := by
  unfold cutD
  rw [h.1, h.2, List.drop_zero, Nat.sub_zero, List.take_length]
theorem LD.sl [Pn] {lo hi : Option Expr} {tl th : TPd} {p2 : Pos} (ha : LO X e oa) (hl : LP X lo tl) (hh : LP X hi th) : LD X (.Subscript e (.Slice lo hi none p2) pos) (dSl oa tl th) :=
  ⟨peImp (pe_slice (sl_list.or (sl_tupA.or sl_str)) ha.p hl.p hh.p) fun σ H Q ⟨G, ρ, F, Q', R, q, c⟩ => ⟨G, ρ, F, _, R, q, fun a ρ1 v H1 F1 h1 R1 s1 av => ⟨G, ρ1, F1, _, R1, h1, fun i ρ2 H2 F2 h2 R2 s2 => ⟨G, ρ2, F2, _, R2, h2, fun j ρ3 H3 F3 h3 R3 s3 => by
    obtain ⟨x, h4, d⟩ := res1_dr R3 (av.mono (s2.trans s3)) h3
    have s := (s1.trans s2).trans s3
    split at h4
    · obtain ⟨b, vs, rfl, q, d'⟩ := d.lst R3.fh
      refine .inl ⟨b, vs, rfl, rdSq q, fun p hp => ?_⟩
      have g := Grow.frozen R3.fh hp (.lst (cutV vs i j))
      exact c _ _ _ _ _ h4 (R3.grow g) (s.trans g.ff) (.lst (.inl upd_same) ((cut_df d' i j).mono g.ff))
    · obtain ⟨b, vs, rfl, q, d'⟩ := d.tup R3.fh
      refine .inr (.inl ⟨b, vs, rfl, q, fun hw => ?_, fun _ p hp => ?_⟩)
      · have e1 : cutD _ i j = _ := cut_whole (xs := ‹List PD›) (by rw [← d'.length]; exact hw)
        rw [e1] at h4
        cases d with
        | f d => exact c _ _ _ _ _ h4 R3 s d
      · have g := Grow.frozen R3.fh hp (.tup (cutV vs i j))
        exact c _ _ _ _ _ h4 (R3.grow g) (s.trans g.ff) (.tup (SqT.of upd_same) ((cut_df d' i j).mono g.ff))
    · rw [d.str]
      exact .inr (.inr ⟨_, rfl, h4.1, c _ _ _ _ _ h4.2 R3 s (.str _)⟩)
    · exact False.elim h4⟩⟩⟩⟩
end
end DL
namespace DL
open PySem L2 PyProof.Rows
structure DE where
  nx : En → Prop
  rt : Lc → En → Prop
  bk : En → Prop := fun _ => False
  ct : En → Prop := fun _ => False
abbrev TSt := DE → En → Prop
structure CtOk [Pn] (K : PySem.W.Frag) (G : Gm) (F : Hp) (D' : DE) (D : Ends) : Prop where
  nx : ∀ ρ σ H F', D'.nx ρ → Rel K G ρ F' σ H → Same F F' → D.nx σ H
  rt : ∀ l ρ v σ H F', D'.rt l ρ → Rel K G ρ F' σ H → Same F F' → RsOk K G F' H ρ σ l v → D.rt v H
  bk : ∀ ρ σ H F', D'.bk ρ → Rel K G ρ F' σ H → Same F F' → D.bk σ H
  ct : ∀ ρ σ H F', D'.ct ρ → Rel K G ρ F' σ H → Same F F' → D.ct σ H
theorem CtOk.mono [Pn] {K : PySem.W.Frag} {G : Gm} {F F' : Hp} {D' : DE} {D : Ends} (c : CtOk K G F D' D) (s : Same F F') : CtOk K G F' D' D :=
  ⟨fun ρ σ H F2 h R s2 => c.nx ρ σ H F2 h R (s.trans s2), fun l ρ v σ H F2 h R s2 r => c.rt l ρ v σ H F2 h R (s.trans s2) r, fun ρ σ H F2 h R s2 => c.bk ρ σ H F2 h R (s.trans s2), fun ρ σ H F2 h R s2 => c.ct ρ σ H F2 h R (s.trans s2)⟩
def liftS [Pn] (K : PySem.W.Frag) (t : TSt) : TS := fun D σ H => ∃ G ρ F D', Rel K G ρ F σ H ∧ t D' ρ ∧ CtOk K G F D' D
structure LS [Pn] (X : Cx) (st : Stmt) (t : TSt) : Prop where
  p : PS X st (liftS X.K t)
structure LSs [Pn] (X : Cx) (st : List Stmt) (t : TSt) : Prop where
  p : PSs X st (liftS X.K t)
section
variable {G : Gm} {X : Cx} {K : PySem.W.Frag} {F F' H H' : Hp} {ρ : En} {σ : L2.St} {e e2 e3 : Expr} {es : List Expr} {pos : Pos} {oa ob oc : Op1} {ta tb : TD} {c : TTd} {st : Stmt} {sts sts2 : List Stmt} {t u : TSt} {tf tf2 : TF}
def sNext : TSt := fun D ρ => D.nx ρ
def force : En → (En → Prop) → Prop
  | [], k => k []
  | a :: r, k => force r fun r' => k (a :: r')
theorem force_eq : ∀ (ρ : En) (k : En → Prop), force ρ k = k ρ
  | [], _ => rfl
  | a :: r, k => force_eq r fun r' => k (a :: r')
def sSeq (t u : TSt) : TSt := fun D ρ => t { D with nx := fun ρ' => force ρ' fun ρ'' => u D ρ'' } ρ
theorem LSs.nil [Pn] : LSs X [] sNext := ⟨pssImp pss_nil fun D σ H ⟨G, ρ, F, D', R, h, k⟩ => k.nx _ _ _ _ h R (Same.refl _)⟩
theorem LSs.cons [Pn] (h1 : LS X st t) (h2 : LSs X sts u) : LSs X (st :: sts) (sSeq t u) := ⟨pssImp (pss_cons h1.p h2.p) fun D σ H ⟨G, ρ, F, D', R, h, k⟩ =>
  ⟨G, ρ, F, _, R, h, ⟨fun ρ1 σ1 H1 F1 h1 R1 s1 => ⟨G, ρ1, F1, D', R1, (by have h1 : force ρ1 (fun ρ'' => u D' ρ'') := h1; rw [force_eq] at h1; exact h1), k.mono s1⟩, k.rt, k.bk, k.ct⟩⟩⟩
theorem LSs.one [Pn] (h1 : LS X st t) : LSs X [st] t := ⟨pss_one h1.p⟩
def sBrk : TSt := fun D ρ => D.bk ρ
theorem LS.brk [Pn] : LS X (.Break pos) sBrk := ⟨psImp ps_break fun D σ H ⟨G, ρ, F, D', R, h, k⟩ => k.bk _ _ _ _ h R (Same.refl _)⟩
def sDrop (t : TD) : TSt := fun D ρ => t ρ fun _ ρ1 => D.nx ρ1
theorem LS.drop [Pn] (h : LD X e ta) (hs : swapsWith e none pos.line X.env = pure false := by rfl) : LS X (.Expr e pos) (sDrop ta) := ⟨psImp (ps_expr h.p hs) fun D σ H ⟨G, ρ, F, D', R, q, k⟩ =>
  ⟨G, ρ, F, _, R, q, fun x ρ1 v H1 F1 h1 R1 s1 _ => k.nx _ _ _ _ h1 R1 s1⟩⟩
def sRet (t : TF) : TSt := fun D ρ => t ρ D.rt
theorem LS.ret [Pn] (h : LF X e tf) : LS X (.Return (some e) pos) (sRet tf) := ⟨psImp (ps_ret h.p) fun D σ H ⟨G, ρ, F, D', R, q, k⟩ =>
  ⟨G, ρ, F, _, R, q, fun l ρ1 v H1 F1 h1 R1 s1 r1 => k.rt _ _ _ _ _ _ h1 R1 s1 r1⟩⟩
def sRetV (i : Nat) : TSt := fun D ρ => match ρ[i]? with
  | some (some (.d x)) => D.rt (.d x) ρ
  | some (some l) => if (l.own && l.tag.isNone) = true then D.rt l (ρ.set i none) else False
  | _ => False
theorem Rel.leave [Pn] {i : Nat} {l : Lc} {a : Addr} (R : Rel K G ρ F σ H) (er : ρ[i]? = some (some l)) (ho : l.own = true) (es : σ[i]? = some (some (.ref a))) : Frs K G F H (ρ.set i none) σ l a := by
  have sub : ∀ (j : Nat) (m : Lc), (ρ.set i none)[j]? = some (some m) → ρ[j]? = some (some m) ∧ j ≠ i := fun j m e => by
    rcases set_get e with ⟨_, _, w⟩ | ⟨hj, e⟩
    · cases w
    · exact ⟨e, hj⟩
  refine ⟨fun j m e hm z => (sub j m e).2 (R.ds j i m l _ (sub j m e).1 er hm ho z es), (R.noN_at er ho es).drop i, fun b xs hb => ?_⟩
  obtain ⟨n1, n2⟩ := R.ns i l b xs er hb
  exact ⟨n1, fun e => (n2 i l er).1 ho (by rw [es, e]), fun j m e hm => (n2 j m (sub j m e).1).1 hm, fun j m ys e hy => (sub j m e).2 ((n2 j m (sub j m e).1).2 ys hy)⟩
theorem LS.retV [Pn] (i : Nat) (h : PE X e (tVar i)) : LS X (.Return (some e) pos) (sRetV i) := ⟨psImp (ps_ret h) fun D σ H ⟨G, ρ, F, D', R, q, k⟩ => by
  unfold sRetV at q
  split at q
  · rename_i x er
    obtain ⟨v, e1, d⟩ := R.sl i _ er
    exact ⟨v, e1, k.rt _ _ _ _ _ _ q R (Same.refl _) d⟩
  · rename_i l nd er
    split at q
    · rename_i hz
      rw [Bool.and_eq_true] at hz
      have ht : l.tag = none := by simpa using hz.2
      obtain ⟨a, es, at_⟩ := R.at_ er hz.1
      have fr : Frs X.K G F H (ρ.set i none) σ l a := by
        have sub : ∀ (j : Nat) (m : Lc), (ρ.set i none)[j]? = some (some m) → ρ[j]? = some (some m) ∧ j ≠ i := fun j m e => by
          rcases set_get e with ⟨_, _, w⟩ | ⟨hj, e⟩
          · cases w
          · exact ⟨e, hj⟩
        refine ⟨fun j m e hm z => (sub j m e).2 (R.ds j i m l _ (sub j m e).1 er hm hz.1 z es), (R.noN_at er hz.1 es).drop i, fun b xs hb => ?_⟩
        obtain ⟨n1, n2⟩ := R.ns i l b xs er hb
        exact ⟨n1, fun e => (n2 i l er).1 hz.1 (by rw [es, e]), fun j m e hm => (n2 j m (sub j m e).1).1 hm, fun j m ys e hy => (sub j m e).2 ((n2 j m (sub j m e).1).2 ys hy)⟩
      refine ⟨_, es, k.rt l _ _ _ _ _ q (R.drop i) (Same.refl _) ?_⟩
      cases l with
      | d x => exact absurd rfl (nd x)
      | sc u => simp [Lc.own] at hz
      | _ => exact ⟨a, rfl, ht, at_, fr⟩
    · exact False.elim q
  · exact False.elim q⟩
def sIf (c : TTd) (t u : TSt) : TSt := fun D ρ => c ρ fun b ρ1 => brB b (t D ρ1) (u D ρ1)
theorem LS.ite [Pn] (h : LT X e c) (h1 : LSs X sts t) (h2 : LSs X sts2 u) : LS X (.If e sts sts2 pos) (sIf c t u) := ⟨psImp (ps_if h.p h1.p h2.p) fun D σ H ⟨G, ρ, F, D', R, q, k⟩ =>
  ⟨G, ρ, F, _, R, q, fun b ρ1 H1 F1 h1 R1 s1 => by
    cases b with
    | true => exact ⟨G, ρ1, F1, D', R1, h1.1 rfl, k.mono s1⟩
    | false => exact ⟨G, ρ1, F1, D', R1, h1.2 rfl, k.mono s1⟩⟩⟩
def sAsg (i : Nat) (t : TF) : TSt := fun D ρ => t ρ fun l ρ1 => D.nx (ρ1.set i (some l))
theorem RsOk.slot {l : Lc} {v : V} (h : RsOk K G F H ρ σ l v) : SlotOk K G F H l (some (some v)) ∧ (l.own = true → ∀ (j : Nat) (m : Lc), ρ[j]? = some (some m) → m.own = true → σ[j]? ≠ some (some v)) := by
  cases l with
  | d x => exact ⟨⟨v, rfl, h⟩, fun z => by cases z⟩
  | sc u => exact ⟨⟨v, rfl, h⟩, fun z => by cases z⟩
  | ls p xs => obtain ⟨a, rfl, _, z, hf⟩ := h; exact ⟨⟨a, rfl, z⟩, fun _ => hf.hf⟩
  | dk p xs => obtain ⟨a, rfl, _, z, hf⟩ := h; exact ⟨⟨a, rfl, z⟩, fun _ => hf.hf⟩
  | dt p xs => obtain ⟨a, rfl, _, z, hf⟩ := h; exact ⟨⟨a, rfl, z⟩, fun _ => hf.hf⟩
  | ob p C xs => obtain ⟨a, rfl, _, z, hf⟩ := h; exact ⟨⟨a, rfl, z⟩, fun _ => hf.hf⟩
  | nb p C fs ns => obtain ⟨a, rfl, _, z, hf⟩ := h; exact ⟨⟨a, rfl, z⟩, fun _ => hf.hf⟩
  | ln p xs => obtain ⟨a, rfl, _, z, hf⟩ := h; exact ⟨⟨a, rfl, z⟩, fun _ => hf.hf⟩
theorem RsOk.ref_own {l : Lc} {v : V} (ho : l.own = true) : RsOk K G F H ρ σ l v ↔ ∃ a, v = .ref a ∧ l.tag = none ∧ At K G F H l a ∧ Frs K G F H ρ σ l a := by
  cases l <;> first | exact Iff.rfl | (simp [Lc.own] at ho)
theorem RsOk.slotN {l : Lc} {v : V} (h : RsOk K G F H ρ σ l v) (ho : l.own = true) : (∀ a, v = .ref a → NoN ρ a) ∧ NsR K G F H ρ σ l v := by
  rw [RsOk.ref_own ho] at h
  obtain ⟨a, rfl, _, _, f⟩ := h
  exact ⟨fun b e => by cases e; exact f.hn, f.ns⟩
theorem RsOk.store [Pn] {l : Lc} {v : V} (R : Rel K G ρ F σ H) (h : RsOk K G F H ρ σ l v) (i : Nat) : Rel K G (ρ.set i (some l)) F (σ.set i (some v)) H := R.store i h.slot.1 h.slot.2 h.slotN
theorem LS.asg [Pn] {i : Nat} {x : Str} {pos' : Pos} (hN : X.N.Nodup) (hi : X.N[i]? = some x) (hx : Loc X.env.scope x) (h : LF X e tf) (hs : swapsWith e (some (.Name x pos')) pos.line X.env = pure false := by rfl)
    (hf : X.fn x = true ∨ X.env.scope.names.lookup x = some .local := by first | exact .inl rfl | exact .inr rfl) : LS X (.Assign [.Name x pos'] e pos) (sAsg i tf) := ⟨psImp (ps_set hN hi hx h.p hs hf) fun D σ H ⟨G, ρ, F, D', R, q, k⟩ =>
  ⟨G, ρ, F, _, R, q, fun l ρ1 v H1 F1 h1 R1 s1 r1 => k.nx _ _ _ _ h1 (r1.store R1 i) s1⟩⟩
def sPar (i j : Nat) (t u : TF) : TSt := fun D ρ => t ρ fun l ρ1 => u ρ1 fun m ρ2 => D.nx ((ρ2.set i (some l)).set j (some m))
theorem At.unpin {l : Lc} {b p : Addr} {o : HO} (z : At K (G.pin p o) F H l b) (h0 : G.H0 p = none) (hio : p ∉ G.io) : At K G F H l b ∧ b ≠ p := by
  have hp : (G.pin p o).H0 p = some o := if_pos rfl
  have ow := z.ow
  have nb : b ≠ p := fun q => by
    subst q
    cases e : l.tag with
    | none => rw [e] at ow; have ow : (G.pin b o).H0 b = none := ow; rw [hp] at ow; cases ow
    | some k => rw [e] at ow; exact hio (List.mem_of_getElem? ow)
  refine ⟨⟨z.nf, ?_, z.ob⟩, nb⟩
  cases e : l.tag with
  | none =>
    rw [e] at ow
    have ow : (if b = p then some o else G.H0 b) = none := ow
    rw [if_neg nb] at ow; exact ow
  | some k => rw [e] at ow; exact ow
theorem At.unpins {l : Lc} {b : Addr} : ∀ {L : List (Addr × HO)} {G : Gm}, (L.map (·.1)).Nodup → (∀ q ∈ L, G.H0 q.1 = none ∧ q.1 ∉ G.io) → At K (G.pins L) F H l b → At K G F H l b ∧ ∀ q ∈ L, b ≠ q.1
  | [], G, _, _, z => ⟨z, fun _ w => absurd w List.not_mem_nil⟩
  | q :: r, G, nd, h, z => by
    rw [List.map_cons, List.nodup_cons] at nd
    obtain ⟨h1, h2⟩ := h q List.mem_cons_self
    obtain ⟨z1, w⟩ := At.unpins (G := G.pin q.1 q.2) nd.2 (fun x hx => by
      obtain ⟨g1, g2⟩ := h x (List.mem_cons_of_mem _ hx)
      exact ⟨by rw [Gm.pin_ne fun e => nd.1 (by rw [← e]; exact List.mem_map_of_mem hx)]; exact g1, g2⟩) z
    obtain ⟨z2, ne⟩ := z1.unpin h1 h2
    refine ⟨z2, fun x hx => ?_⟩
    rcases List.mem_cons.mp hx with rfl | hx
    · exact ne
    · exact w x hx
theorem Ns.unpins {b : Addr} {t : Option Nat} {xs : List PD} : ∀ {L : List (Addr × HO)} {G : Gm}, (L.map (·.1)).Nodup → (∀ q ∈ L, G.H0 q.1 = none ∧ q.1 ∉ G.io) → Ns K (G.pins L) F H t b xs → Ns K G F H t b xs ∧ ∀ q ∈ L, b ≠ q.1
  | [], G, _, _, z => ⟨z, fun _ w => absurd w List.not_mem_nil⟩
  | q :: r, G, nd, h, z => by
    rw [List.map_cons, List.nodup_cons] at nd
    obtain ⟨h1, h2⟩ := h q List.mem_cons_self
    obtain ⟨z1, w⟩ := Ns.unpins (G := G.pin q.1 q.2) nd.2 (fun x hx => by
      obtain ⟨g1, g2⟩ := h x (List.mem_cons_of_mem _ hx)
      exact ⟨by rw [Gm.pin_ne fun e => nd.1 (by rw [← e]; exact List.mem_map_of_mem hx)]; exact g1, g2⟩) z
    have ne : b ≠ q.1 := fun e => by
      rcases z1.ow with o | o
      · have o : (if b = q.1 then some q.2 else G.H0 b) = none := o
        rw [if_pos e] at o; cases o
      · obtain ⟨_, _, _, o⟩ := o; exact h2 (by rw [← e]; exact o)
    refine ⟨⟨z1.nf, ?_, z1.ob⟩, fun x hx => ?_⟩
    · rcases z1.ow with o | o
      · rw [Gm.pin_ne ne] at o; exact .inl o
      · exact .inr o
    · rcases List.mem_cons.mp hx with rfl | hx
      · exact ne
      · exact w x hx
structure Apt (l : Lc) (v : V) (m : Lc) (w : V) : Prop where
  ne : l.own = true → m.own = true → w ≠ v
  lw : ∀ b xs, (b, xs) ∈ l.fp → (m.own = true → w ≠ .ref b) ∧ ∀ ys, (b, ys) ∉ m.fp
  mv : ∀ b xs, (b, xs) ∈ m.fp → l.own = true → v ≠ .ref b
theorem RsOk.keep [Pn] {l : Lc} {v : V} (R : Rel K G ρ F σ H) (h : RsOk K G F H ρ σ l v) :
    ∃ G', Rel K G' ρ F σ H ∧ ∀ {ρ' F' H'}, Rel K G' ρ' F' σ H' → Same F F' → Rel K G ρ' F' σ H' ∧ RsOk K G F' H' ρ' σ l v ∧
      ∀ {m : Lc} {w : V}, RsOk K G' F' H' ρ' σ m w → RsOk K G F' H' ρ' σ m w ∧ Apt l v m w := by
  cases ho : l.own with
  | true =>
    rw [RsOk.ref_own ho] at h
    obtain ⟨a, ev, ht, ⟨nf, ow, o, eo, ok⟩, hf⟩ := h
    subst ev
    have n0 : G.H0 a = none := by rw [ht] at ow; exact ow
    have nio : ∀ {b : Addr}, G.H0 b = none → b ∉ G.io := fun {b} n z => (R.ih b z).2 n
    have no : ∀ us, o ≠ .tup us := fun us z => by subst z; cases l <;> exact False.elim ok
    obtain ⟨L, hL⟩ : ∃ L : List (Addr × HO), L = (a, o) :: l.fp.map fun x => (x.1, (H x.1).getD (.lst [])) := ⟨_, rfl⟩
    have e1 : L.map (·.1) = a :: l.fp.map (·.1) := by rw [hL, List.map_cons, List.map_map]; rfl
    have nd : (L.map (·.1)).Nodup := by
      rw [e1]
      refine List.nodup_cons.mpr ⟨fun z => ?_, ok.fp_nodup⟩
      obtain ⟨x, hx, ex⟩ := List.mem_map.mp z
      exact (hf.ns x.1 x.2 hx).2.1 (by rw [ex])
    have all : ∀ q ∈ L, F q.1 = none ∧ H q.1 = some q.2 ∧ G.H0 q.1 = none ∧ NoS ρ σ q.1 ∧ NoN ρ q.1 ∧ ∀ us, q.2 ≠ .tup us := fun q hq => by
      rw [hL] at hq
      rcases List.mem_cons.mp hq with rfl | hq
      · exact ⟨nf, eo, n0, hf.hf, hf.hn, no⟩
      · obtain ⟨x, hx, rfl⟩ := List.mem_map.mp hq
        obtain ⟨⟨z1, z2, vs, z3, z4⟩, _, z5, z6⟩ := hf.ns x.1 x.2 hx
        rw [ht] at z2
        refine ⟨z1, ?_, z2.elim id (fun z => by obtain ⟨_, z, _⟩ := z; cases z), z5, z6, ?_⟩
        · show H x.1 = some ((H x.1).getD _); rw [z3]; rfl
        · show ∀ us, (H x.1).getD _ ≠ .tup us
          rw [z3]
          intro us z; cases z
    have all2 : ∀ q ∈ L, G.H0 q.1 = none ∧ G.F0 q.1 = none ∧ q.1 ∉ G.io ∧ ∀ us, q.2 ≠ .tup us := fun q hq => by
      obtain ⟨z1, z2, z3, _, _, z4⟩ := all q hq
      exact ⟨z3, R.ff.free z1, nio z3, z4⟩
    refine ⟨G.pins L, Rel.pins nd all R, fun {ρ' F' H'} R' s => ?_⟩
    obtain ⟨R2, w⟩ := Rel.unpins R.ok nd all2 R'
    have all3 : ∀ q ∈ L, G.H0 q.1 = none ∧ q.1 ∉ G.io := fun q hq => ⟨(all2 q hq).1, (all2 q hq).2.2.1⟩
    have ma : (a, o) ∈ L := by rw [hL]; exact List.mem_cons_self
    have mb : ∀ b xs, (b, xs) ∈ l.fp → (b, (H b).getD (.lst [])) ∈ L := fun b xs hb => by rw [hL]; exact List.mem_cons_of_mem _ (List.mem_map.mpr ⟨(b, xs), hb, rfl⟩)
    obtain ⟨f2, h2, hf2, hn2⟩ := w _ ma
    refine ⟨R2, (RsOk.ref_own ho).mpr ⟨a, rfl, ht, ⟨f2, by rw [ht]; exact n0, o, h2, ok.mono s⟩, hf2, hn2, fun b xs hb => ?_⟩, fun {m u} r => ?_⟩
    · obtain ⟨⟨z1, z2, vs, z3, z4⟩, z0, _, _⟩ := hf.ns b xs hb
      obtain ⟨g1, g2, g3, g4⟩ := w _ (mb b xs hb)
      have g2 : H' b = some ((H b).getD (.lst [])) := g2
      rw [z3] at g2
      exact ⟨⟨g1, z2, vs, g2, z4.mono s⟩, z0, g3, g4⟩
    · cases hm : m.own with
      | true =>
        rw [RsOk.ref_own hm] at r ⊢
        obtain ⟨b, ew, hb, z, hf3⟩ := r
        subst ew
        obtain ⟨z1, z2⟩ := At.unpins nd all3 z
        have nsm : ∀ c xs, (c, xs) ∈ m.fp → Ns K G F' H' m.tag c xs ∧ ∀ q ∈ L, c ≠ q.1 := fun c xs hc => Ns.unpins nd all3 (hf3.ns c xs hc).1
        refine ⟨⟨b, rfl, hb, z1, ⟨hf3.hf, hf3.hn, fun c xs hc => ⟨(nsm c xs hc).1, (hf3.ns c xs hc).2⟩⟩⟩, ⟨fun _ _ q => z2 _ ma (V.ref.inj q), fun c xs hc => ⟨fun _ q => z2 _ (mb c xs hc) (V.ref.inj q), fun ys q => (nsm c ys q).2 _ (mb c xs hc) rfl⟩, fun c xs hc _ q => (nsm c xs hc).2 _ ma (V.ref.inj q).symm⟩⟩
      | false =>
        refine ⟨?_, ⟨fun _ z => (by rw [hm] at z; cases z), fun c xs hc => ⟨fun z => (by rw [hm] at z; cases z), fun ys q => (by rw [Lc.fp_own hm] at q; cases q)⟩, fun c xs hc => (by rw [Lc.fp_own hm] at hc; cases hc)⟩⟩
        rcases not_own hm with ⟨x, rfl⟩ | ⟨u, rfl⟩
        · exact r
        · exact r
  | false =>
    refine ⟨G, R, fun {ρ' F' H'} R' s => ⟨R', ?_, fun {m w} r => ⟨r, ⟨fun z => (by rw [ho] at z; cases z), fun b xs hb => (by rw [Lc.fp_own ho] at hb; cases hb), fun b xs _ z => (by rw [ho] at z; cases z)⟩⟩⟩⟩
    rcases not_own ho with ⟨x, rfl⟩ | ⟨u, rfl⟩
    · exact Df.mono s h
    · exact ScOk.mono s h
theorem RsOk.store2 [Pn] {l m : Lc} {v w : V} (R : Rel K G ρ F σ H) (r3 : RsOk K G F H ρ σ l v) (r4 : RsOk K G F H ρ σ m w) (ap : Apt l v m w) (i j : Nat) :
    Rel K G ((ρ.set i (some l)).set j (some m)) F ((σ.set i (some v)).set j (some w)) H := by
  have R4 := r3.store R i
  refine R4.store j r4.slot.1 (fun hm jj mm e hmm z => ?_) fun hm => ⟨fun a ew jj mm ys e hy => ?_, fun b xs hb => ?_⟩
  · rcases set_get e with ⟨rfl, hl, w'⟩ | ⟨hne, e'⟩
    · cases w'
      rw [List.getElem?_set_self (by rw [R.len]; exact hl)] at z
      exact ap.ne hmm hm (by simpa using z.symm)
    · rw [List.getElem?_set_ne (Ne.symm hne)] at z
      exact r4.slot.2 hm jj mm e' hmm z
  · rcases set_get e with ⟨rfl, hl, w'⟩ | ⟨hne, e'⟩
    · cases w'; exact (ap.lw a ys hy).1 hm ew
    · exact (r4.slotN hm).1 a ew jj mm ys e' hy
  · obtain ⟨n1, n2, n3, n4⟩ := (r4.slotN hm).2 b xs hb
    refine ⟨n1, n2, fun jj mm e hmm z => ?_, fun jj mm ys e hy => ?_⟩
    · rcases set_get e with ⟨rfl, hl, w'⟩ | ⟨hne, e'⟩
      · cases w'
        rw [List.getElem?_set_self (by rw [R.len]; exact hl)] at z
        exact ap.mv b xs hb hmm (by simpa using z)
      · rw [List.getElem?_set_ne (Ne.symm hne)] at z
        exact n3 jj mm e' hmm z
    · rcases set_get e with ⟨rfl, hl, w'⟩ | ⟨hne, e'⟩
      · cases w'; exact (ap.lw b ys hy).2 xs hb
      · exact n4 jj mm ys e' hy
theorem LS.par [Pn] {i j : Nat} {x y : Str} {px py pt : Pos} {kt k2 : Nat} {pt2 : Pos} (hc : X.calm = true) (hN : X.N.Nodup) (hi : X.N[i]? = some x) (hj : X.N[j]? = some y) (hij : i ≠ j)
    (hx : X.env.scope.names.lookup x = some .local) (hy : X.env.scope.names.lookup y = some .local) (h1 : LF X e tf) (h2 : LF X e2 tf2)
    (hw : swappedStores [.Tuple [.Name x px, .Name y py] kt pt] (.Tuple [e, e2] k2 pt2) X.env = pure (some [x, y]))
    (hs : swapsWithSole [.Tuple [.Name x px, .Name y py] kt pt] (.Tuple [e, e2] k2 pt2) pos.line X.env = pure false := by rfl)
    (hs1 : starEach [e, e2] X.env = (false, eval e X.env) :: starEach [e2] X.env := by rfl) (hs2 : starEach [e2] X.env = (false, eval e2 X.env) :: starEach [] X.env := by rfl) :
    LS X (.Assign [.Tuple [.Name x px, .Name y py] kt pt] (.Tuple [e, e2] k2 pt2) pos) (sPar i j tf tf2) :=
  ⟨psImp (ps_par hc hN hi hj hij hx hy (pa_cons h1.p (pa_cons h2.p pa_nil hs2) hs1) hw hs) fun D σ H ⟨G, ρ, F, D', R, q, k⟩ =>
    ⟨G, ρ, F, _, R, q, fun l ρ1 v H1 F1 h1 R1 s1 r1 => by
      obtain ⟨G', Rp, back⟩ := r1.keep R1
      exact ⟨G', ρ1, F1, _, Rp, h1, fun m ρ2 w H2 F2 h2 R2 s2 r2 => by
        obtain ⟨R3, r3, both⟩ := back R2 s2
        obtain ⟨r4, ne⟩ := both r2
        refine ⟨v, w, rfl, k.nx _ _ _ _ h2 ?_ (s1.trans s2)⟩
        exact r3.store2 R3 r4 ne i j⟩⟩⟩
end
end DL
namespace DL
open PySem L2 PyProof.Rows
section
variable {G : Gm} {X : Cx} {K : PySem.W.Frag} {F F' H H' : Hp} {ρ : En} {σ : L2.St} {e e2 e3 : Expr} {es : List Expr} {pos : Pos} {oa ob oc : Op1} {ta tb : TD} {c : TTd} {st : Stmt} {sts sts2 : List Stmt} {t u : TSt} {tf tf2 : TF} {v : V} {x : PD}
inductive Pt where
  | nm (i : Nat)
  | tp (is : List Nat)
  /-- a list's items -/
  | ul (is : List Nat)
def gNames : List Nat → TGs
  | [] => gNil
  | i :: r => gCons (gName i) (gNames r)
def Pt.tg (K : PySem.W.Frag) : Pt → TG
  | .nm i => gName i
  | .tp is => gTup K is.length (gNames is)
  | .ul is => gUnl K is.length (gNames is)
def Pt.slots : Pt → List Nat
  | .nm i => [i]
  | .tp is => is
  | .ul is => is
def setAll : En → List Nat → List PD → En
  | ρ, i :: is, x :: xs => setAll (ρ.set i (some (.d x))) is xs
  | ρ, _, _ => ρ
def Pt.go : Pt → PD → En → (En → Prop) → Prop
  | .nm i, x, ρ, Q => Q (ρ.set i (some (.d x)))
  | .tp is, .tuple xs, ρ, Q => xs.length = is.length ∧ Q (setAll ρ is xs)
  | .tp _, _, _, _ => False
  | .ul is, .list xs, ρ, Q => xs.length = is.length ∧ Q (setAll ρ is xs)
  | .ul _, _, _, _ => False
def Only (is : List Nat) (σ σ' : L2.St) : Prop := σ'.length = σ.length ∧ ∀ j, j ∉ is → σ'[j]? = σ[j]?
theorem only_set {i : Nat} {is : List Nat} {w : Option V} (h : i ∈ is) : Only is σ (σ.set i w) := ⟨List.length_set, fun j hj => List.getElem?_set_ne fun z => hj (by rw [← z]; exact h)⟩
theorem names_go [Pn] {is js : List Nat} (hs : ∀ i ∈ js, i ∈ is) : ∀ {ρ : En} {σ : L2.St} {vs : List V} {xs : List PD} {Q : L2.St → Hp → Prop}, Rel K G ρ F σ H → DfA K F vs xs → xs.length = js.length →
    (∀ σ2, Rel K G (setAll ρ js xs) F σ2 H → Only is σ σ2 → Q σ2 H) → gNames js vs σ H Q := by
  induction js with
  | nil =>
    intro ρ σ vs xs Q R d hl q
    have e1 : xs = [] := List.length_eq_zero_iff.mp hl
    subst e1
    cases d
    exact ⟨rfl, q σ R ⟨rfl, fun _ _ => rfl⟩⟩
  | cons j js ih =>
    intro ρ σ vs xs Q R d hl q
    cases d with
    | nil => simp at hl
    | cons a b =>
      rename_i v vs x xs
      refine ⟨v, vs, rfl, ?_⟩
      show gNames js vs (σ.set j (some v)) H Q
      refine ih (fun i hi => hs i (List.mem_cons_of_mem _ hi)) (R.store_d j a) b (by simpa using hl) fun σ2 R2 o => q σ2 R2 ?_
      refine ⟨by rw [o.1, List.length_set], fun k hk => ?_⟩
      rw [o.2 k hk]
      exact List.getElem?_set_ne fun z => hk (by rw [← z]; exact hs j List.mem_cons_self)
theorem pt_go [Pn] (pt : Pt) (R : Rel K G ρ F σ H) (d : Df K F v x) {Q' : En → Prop} (h : pt.go x ρ Q') {Q : L2.St → Hp → Prop} (q : ∀ ρ2 σ2, Q' ρ2 → Rel K G ρ2 F σ2 H → Only pt.slots σ σ2 → Q σ2 H) : pt.tg K v σ H Q := by
  cases pt with
  | nm i => exact q _ _ h (R.store_d i d) (only_set (List.mem_singleton.mpr rfl))
  | tp is =>
    cases d <;> first | exact False.elim h | skip
    rename_i a vs xs hq ds
    obtain ⟨h1, h2⟩ := h
    exact ⟨a, vs, rfl, seqT R.fh hq, by rw [ds.length]; exact h1, names_go (fun i hi => hi) R ds h1 fun σ2 R2 o => q _ σ2 h2 R2 o⟩
  | ul is =>
    cases d <;> first | exact False.elim h | skip
    rename_i a vs xs hq ds
    obtain ⟨h1, h2⟩ := h
    exact ⟨a, vs, rfl, rdSq (rdM R.fh hq), by rw [ds.length]; exact h1, names_go (fun i hi => hi) R ds h1 fun σ2 R2 o => q _ σ2 h2 R2 o⟩
def sSetL (s : Nat) (oi : Op1) (t : TD) : TSt := fun D ρ => t ρ fun x ρ1 => match ρ1[s]? with
  | some (some _) => oi.run ρ1 fun a ρ2 => res1 ρ2 a fun y => (match y, ρ2[s]? with
    | .int i, some (some (.ls p xs)) => ∃ j, ixN xs.length i = some j ∧ D.nx (ρ2.set s (some (.ls p (xs.set j x))))
    | _, _ => False)
  | _ => False
theorem Rel.own_ls [Pn] (R : Rel K G ρ F σ H) {s : Nat} {p : Option Nat} {xs : List PD} (er : ρ[s]? = some (some (.ls p xs))) : ∃ a vs, σ[s]? = some (some (.ref a)) ∧ H a = some (.lst vs) ∧ DfA K F vs xs := by
  obtain ⟨a, es, nf, ow, o, eo, ok⟩ := R.at_ er rfl
  cases o <;> first | exact False.elim ok | exact ⟨a, _, es, eo, ok⟩
theorem LS.setL [Pn] {s : Nat} {o i : Expr} {p2 : Pos} (h : LD X e ta) (hg : PG X (.Subscript o i p2) (gSub (tVar s) (liftO X.K oa) rSetL))
    (hs : swapsWithSole [.Subscript o i p2] e pos.line X.env = pure false := by rfl) (hw : swappedStores [.Subscript o i p2] e X.env = pure none := by rfl)
    (h1 : (assignEach [.Subscript o i p2] X.env).map (·.2) = [assign (.Subscript o i p2) X.env] := by rfl) : LS X (.Assign [.Subscript o i p2] e pos) (sSetL s oa ta) := ⟨psImp (ps_asg h.p hg hs hw h1) fun D σ H ⟨G, ρ, F, D', R, q, k⟩ =>
  ⟨G, ρ, F, _, R, q, fun x ρ1 v H1 F1 h1 R1 s1 d => by
    split at h1
    · rename_i l er
      obtain ⟨w, ew⟩ := (R1.sl s _ er).some
      refine ⟨w, ew, G, ρ1, F1, _, R1, h1, fun a ρ2 vi H2 F2 h2 R2 s2 av => ?_⟩
      obtain ⟨y, h3, dy⟩ := res1_dr R2 av h2
      split at h3
      · rename_i i p xs er2
        obtain ⟨j, hj, h4⟩ := h3
        obtain ⟨b, vs, es, eb, dv⟩ := R2.own_ls er2
        rw [es] at ew
        have ew : w = .ref b := by simpa using ew.symm
        subst ew
        rw [dy.int]
        refine ⟨b, vs, i, j, rfl, rfl, eb, by rw [dv.length]; exact hj, k.nx _ _ _ _ h4 ?_ (s1.trans s2)⟩
        exact R2.write er2 rfl es (m := .ls p (xs.set j x)) (dv.set j (d.mono s2)) rfl
      · exact False.elim h3
    · exact False.elim h1⟩⟩
def sApp (s : Nat) (t : TD) : TSt := fun D ρ => match ρ[s]? with
  | some (some (.ls _ _)) => t ρ fun x ρ1 => (match ρ1[s]? with
    | some (some (.ls p xs)) => xs.length < sizeLine ∧ D.nx (ρ1.set s (some (.ls p (xs ++ [x]))))
    | _ => False)
  | _ => False
theorem LS.app [Pn] {s : Nat} (h : PE X e (tBM X.K "list" rAppend (tVar s) (tCons (liftD X.K ta) tNil))) (hs : swapsWith e none pos.line X.env = pure false := by rfl) : LS X (.Expr e pos) (sApp s ta) := ⟨psImp (ps_expr h hs) fun D σ H ⟨G, ρ, F, D', R, q, k⟩ => by
  unfold sApp at q
  split at q
  · rename_i p0 ys er
    obtain ⟨a, us, es, ea, _⟩ := R.own_ls er
    refine ⟨_, es, .inl ⟨rfl, us, SqL.of ea⟩, G, ρ, F, _, R, q, fun x ρ1 v H1 F1 h1 R1 s1 d => ?_⟩
    split at h1
    · rename_i p xs er1
      obtain ⟨b, vs, es1, eb, dv⟩ := R1.own_ls er1
      rw [es] at es1
      have eab : a = b := by simpa using es1
      subst eab
      refine ⟨a, vs, v, rfl, rfl, eb, by rw [dv.length]; exact h1.1, k.nx _ _ _ _ h1.2 ?_ s1⟩
      exact R1.write er1 rfl es (m := .ls p (xs ++ [x])) (dv.snoc d) rfl
    · exact False.elim h1
  · exact False.elim q⟩
def rExtD : V → List V → Hp → VK → Prop := fun x vs H Q => ∃ l b xs zs, x = .ref l ∧ vs = [.ref b] ∧ H l = some (.lst xs) ∧ Rd H b (.lst zs) ∧ xs.length + zs.length ≤ sizeLine ∧ Q .non (upd H l (.lst (xs ++ zs)))
theorem mt_extD : MtR X "list.extend" rExtD := by
  intro pins s σ H x vs v us Q I rx rv ⟨l, b, xs, zs, ex, ev, hH, hB, hz, q⟩
  subst ex ev
  cases rx
  obtain ⟨u, rfl, ru⟩ := rv.one
  cases ru
  obtain ⟨z, is1, n, r, hl, e⟩ := I.lstM hH
  obtain ⟨z2, is2, n2, r2, hl2, e2⟩ := rd_list I hB
  have hsz : is1.toArray.size + is2.toArray.size ≤ sizeLine := by simp only [List.size_toArray]; omega
  have hlong : ¬ (!is1.toArray.isEmpty && Builtin.List.listTooLong (is1.toArray.size + is2.toArray.size)) = true := by
    simp only [notLongL hsz, Bool.and_false]; exact Bool.false_ne_true
  refine call_meets F.slot_list_extend ⟨_, e, rfl⟩ F.entry_list_extend (F.args_list_extend_2 _ _) (AutoSeq1.list_extend_list_list_0 l is1.toArray n b is2.toArray n2 hlong
    (by simp only [List.size_toArray]; omega) (by omega)) ⟨e, e2, .non, _, I.lset (its' := is1 ++ is2) hH e (by simp) (r.append r2) ?_, rfl, q⟩
  simp only [List.length_append]; exact hz
def sExt (s : Nat) (o : Op1) : TSt := fun D ρ => match ρ[s]? with
  | some (some (.ls _ _)) => o.run ρ fun a ρ1 => res1 ρ1 a fun y => (match y, ρ1[s]? with
    | .list ys, some (some (.ls p xs)) => xs.length + ys.length ≤ sizeLine ∧ D.nx (ρ1.set s (some (.ls p (xs ++ ys))))
    | _, _ => False)
  | _ => False
theorem LS.ext [Pn] {s : Nat} (h : PE X e (tBM X.K "list" rExtD (tVar s) (tCons (liftO X.K oa) tNil))) (hs : swapsWith e none pos.line X.env = pure false := by rfl) : LS X (.Expr e pos) (sExt s oa) := ⟨psImp (ps_expr h hs) fun D σ H ⟨G, ρ, F, D', R, q, k⟩ => by
  unfold sExt at q
  split at q
  · rename_i p0 ys er
    obtain ⟨a, us, es, ea, _⟩ := R.own_ls er
    refine ⟨_, es, .inl ⟨rfl, us, SqL.of ea⟩, G, ρ, F, _, R, q, fun av ρ1 v H1 F1 h1 R1 s1 d => ?_⟩
    obtain ⟨y, h2, dy⟩ := res1_dr R1 d h1
    split at h2
    · rename_i zs p xs er1
      obtain ⟨b, vs, es1, eb, dv⟩ := R1.own_ls er1
      rw [es] at es1
      have eab : a = b := by simpa using es1
      subst eab
      obtain ⟨c, ws, rfl, ec, dw⟩ := dy.lst R1.fh
      refine ⟨a, c, vs, ws, rfl, rfl, eb, ec, by rw [dv.length, dw.length]; exact h2.1, k.nx _ _ _ _ h2.2 ?_ s1⟩
      exact R1.write er1 rfl es (m := .ls p (xs ++ zs)) (dv.append dw) rfl
    · exact False.elim h2
  · exact False.elim q⟩
end
end DL
namespace DL
open PySem L2 PyProof.Rows
theorem piImp {X : Cx} {tg e : Expr} {t t' : TI} (h : PI X tg e t) (w : ∀ σ H R, t' σ H R → t σ H R) : PI X tg e t' := ⟨fun pins s σ H R I q => h.run pins s σ H R I (w _ _ _ q)⟩
section
variable {G : Gm} {X : Cx} {K : PySem.W.Frag} {F F' H H' : Hp} {ρ : En} {σ : L2.St} {e e2 e3 tg : Expr} {es : List Expr} {pos : Pos} {oa ob oc : Op1} {ta tb : TD} {c : TTd} {st : Stmt} {sts sts2 : List Stmt} {t u : TSt} {tf tf2 : TF} {v : V} {x : PD}
def sWhile (c : TTd) (b : TSt) : TSt := fun D ρ => ∃ (I : En → Prop) (μ : En → Nat), I ρ ∧ ∀ ρ, I ρ → c ρ fun k ρ1 => brB k (b { D with nx := fun ρ' => I ρ' ∧ μ ρ' < μ ρ, ct := fun ρ' => I ρ' ∧ μ ρ' < μ ρ, bk := D.nx } ρ1) (D.nx ρ1)
theorem LS.while [Pn] (hp : PassesOwn (model X.prog X.w) X.A X.env X.xe) (h : LT X e c) (hb : LSs X sts t) : LS X (.While e sts [] pos) (sWhile c t) := ⟨psImp (ps_while hp h.p hb.p) fun D σ H ⟨G, ρ, F, D', R, ⟨I, μ, i0, turn⟩, k⟩ => by
  refine ⟨fun m σ H => ∃ ρ F', Rel X.K G ρ F' σ H ∧ Same F F' ∧ I ρ ∧ m = μ ρ, ⟨μ ρ, ρ, F, R, Same.refl _, i0, rfl⟩, ?_⟩
  rintro m σ1 H1 ⟨ρ1, F1, R1, s1, i1, rfl⟩
  refine ⟨G, ρ1, F1, _, R1, turn ρ1 i1, fun b ρ2 H2 F2 h2 R2 s2 => ?_⟩
  cases b with
  | false => exact iteF (k.nx _ _ _ _ (h2.2 rfl) R2 (s1.trans s2))
  | true =>
    refine iteT ⟨fun σ' H' => ∃ ρ' F', Rel X.K G ρ' F' σ' H' ∧ Same F F' ∧ I ρ' ∧ μ ρ' < μ ρ1, fun σ' H' ⟨ρ', F', R', s', i', l⟩ => ⟨μ ρ', l, ρ', F', R', s', i', rfl⟩, ?_⟩
    have s12 := s1.trans s2
    exact ⟨G, ρ2, F2, _, R2, h2.1 rfl, ⟨fun ρ3 σ3 H3 F3 h R s => ⟨ρ3, F3, R, s12.trans s, h.1, h.2⟩, fun l ρ3 v σ3 H3 F3 h R s r => k.rt _ _ _ _ _ _ h R (s12.trans s) r,
      fun ρ3 σ3 H3 F3 h R s => k.nx _ _ _ _ h R (s12.trans s), fun ρ3 σ3 H3 F3 h R s => ⟨ρ3, F3, R, s12.trans s, h.1, h.2⟩⟩⟩⟩
inductive Wk where
  | items (xs : List PD)
  | own (s : Nat) (p : Option Nat) (xs : List PD)
  /-- the own list at b under a name in the own instance of a slot, which stays -/
  | nst (s : Nat) (nm : Str) (b : Addr) (xs : List PD)
def Wk.list : Wk → List PD
  | .items xs => xs
  | .own _ _ xs => xs
  | .nst _ _ _ xs => xs
def Wk.keeps (ρ : En) : Wk → Prop
  | .items _ => True
  | .own s p xs => ρ[s]? = some (some (.ls p xs))
  | .nst s nm b xs => ∃ p C fs ns, ρ[s]? = some (some (.nb p C fs ns)) ∧ getN nm ns = some (b, xs)
def Wk.keepS (σ σ1 : L2.St) : Wk → Prop
  | .items _ => True
  | .own s _ _ => σ[s]? = σ1[s]?
  | .nst _ _ _ _ => True
abbrev TId := En → (Wk → En → Prop) → Prop
def WkOk [Pn] (K : PySem.W.Frag) (J : It) (w : Wk) (F1 : Hp) (σ1 : L2.St) : Prop := ∀ (G : Gm) (i : Nat) (ρ : En) (F : Hp) (σ : L2.St) (H : Hp), Rel K G ρ F σ H → Same F1 F → w.keeps ρ → w.keepS σ σ1 →
  (w.list.length ≤ i → J.stop i H) ∧ (i < w.list.length → J.go i H ∧ ∀ x H', J.yld i H x H' → ∃ F' d, Grow F H F' H' ∧ w.list[i]? = some d ∧ Df K F' x d)
def liftI [Pn] (K : PySem.W.Frag) (t : TId) : TI := fun σ H R => ∃ G ρ F Q', Rel K G ρ F σ H ∧ t ρ Q' ∧ ∀ w ρ1 H1 F1 J, Q' w ρ1 → Rel K G ρ1 F1 σ H1 → Same F F1 → WkOk K J w F1 σ → R J H1
structure LI [Pn] (X : Cx) (tg e : Expr) (t : TId) : Prop where
  p : PI X tg e (liftI X.K t)
def iSeqH (K : PySem.W.Frag) (tl : TE) : TI := fun σ H R => tl σ H fun x H1 => (∃ a xs, x = .ref a ∧ SqL K H1 a xs ∧ R (Itl K a) H1) ∨ (∃ a xs, x = .ref a ∧ SqT K H1 a xs ∧ R (Itt K a) H1)
theorem pi_seq {tl : TE} (hl : PE X e tl) : PI X tg e (iSeqH X.K tl) := by
  refine ⟨fun pins s σ H R I h => thn (hl.run pins s σ H _ I h) fun u s1 ⟨x, H1, I1, r1, q1⟩ => ?_⟩
  have fp : ∀ b ∈ [s1.heap.objs.size], FpOk X pins H1 b := fun b hb => by rw [List.mem_singleton.mp hb]; exact I1.fpOk (Nat.le_refl _) (I1.hok.fresh (Nat.le_refl _))
  rcases q1 with ⟨a, xs, ex, hq, q⟩ | ⟨a, xs, ex, hq, q⟩ <;> subst ex <;> cases r1
  · obtain ⟨its, _, pl, _⟩ := I1.list hq
    exact wpAny_pyIter_list pl.isList ⟨_, _, _, _, H1, rfl, I1.kept (t' := s1.toks) (fun b o w => Heap.get?_push_of_some _ w), turn_list a _, ⟨_, Heap.get?_push_size _ rfl, rfl, rfl⟩, fp, q⟩
  · obtain ⟨its, _, pl, _⟩ := I1.tuple hq
    exact wpAny_pyIter_tuple (show s1.heap.IsTuple a its.toArray from pl) ⟨_, _, _, _, H1, rfl, I1.kept (t' := s1.toks) (fun b o w => Heap.get?_push_of_some _ w), turn_tuple a _, ⟨_, Heap.get?_push_size _ rfl, rfl, rfl⟩, fp, q⟩
def iSeq (t : TD) : TId := fun ρ Q => t ρ fun x ρ1 => match x with
  | .list xs => Q (.items xs) ρ1
  | .tuple xs => Q (.items xs) ρ1
  | _ => False
theorem wk_list [Pn] {a : Addr} {vs : List V} {xs : List PD} {F1 : Hp} {σ1 : L2.St} (hq : Rd F1 a (.lst vs)) (ds : DfA K F1 vs xs) : WkOk K (Itl K a) (.items xs) F1 σ1 := by
  intro G i ρ F σ H R s _ _
  have q : SqL K H a vs := .inl (rdM R.fh (rdM s hq))
  have hl : vs.length = xs.length := ds.length
  refine ⟨fun h => ⟨vs, q, by rw [hl]; exact h⟩, fun h => ?_⟩
  obtain ⟨d, hd⟩ : ∃ d, xs[i]? = some d := ⟨xs[i]'h, List.getElem?_eq_getElem h⟩
  obtain ⟨v, hv, dv⟩ := ds.get hd
  refine ⟨⟨vs, v, q, hv⟩, fun x H' y => ?_⟩
  obtain ⟨rfl, y⟩ := y
  have := y vs q
  rw [hv] at this
  cases this
  exact ⟨F, d, Grow.refl R.fh, hd, dv.mono s⟩
theorem wk_tup [Pn] {a : Addr} {vs : List V} {xs : List PD} {F1 : Hp} {σ1 : L2.St} (hq : SqT K F1 a vs) (ds : DfA K F1 vs xs) : WkOk K (Itt K a) (.items xs) F1 σ1 := by
  intro G i ρ F σ H R s _ _
  have q : SqT K H a vs := seqT R.fh (seqT s hq)
  have hl : vs.length = xs.length := ds.length
  refine ⟨fun h => ⟨vs, q, by rw [hl]; exact h⟩, fun h => ?_⟩
  obtain ⟨d, hd⟩ : ∃ d, xs[i]? = some d := ⟨xs[i]'h, List.getElem?_eq_getElem h⟩
  obtain ⟨v, hv, dv⟩ := ds.get hd
  refine ⟨⟨vs, v, q, hv⟩, fun x H' y => ?_⟩
  obtain ⟨rfl, y⟩ := y
  have := y vs q
  rw [hv] at this
  cases this
  exact ⟨F, d, Grow.refl R.fh, hd, dv.mono s⟩
theorem LI.seq [Pn] (h : LD X e ta) : LI X tg e (iSeq ta) := ⟨piImp (pi_seq h.p) fun σ H R ⟨G, ρ, F, Q', Rl, q, c⟩ => ⟨G, ρ, F, _, Rl, q, fun x ρ1 v H1 F1 h1 R1 s1 d => by
  split at h1
  · cases d with
    | lst hq ds => exact .inl ⟨_, _, rfl, rdSq (rdM R1.fh hq), c _ _ _ _ _ h1 R1 s1 (wk_list hq ds)⟩
  · cases d with
    | tup hq ds => exact .inr ⟨_, _, rfl, seqT R1.fh hq, c _ _ _ _ _ h1 R1 s1 (wk_tup hq ds)⟩
  · exact False.elim h1⟩⟩
def iOwn (s : Nat) : TId := fun ρ Q => match ρ[s]? with
  | some (some (.ls p xs)) => Q (.own s p xs) ρ
  | some (some (.d (.list xs))) => Q (.items xs) ρ
  | some (some (.d (.tuple xs))) => Q (.items xs) ρ
  | _ => False
theorem wk_own [Pn] {a : Addr} {s : Nat} {p : Option Nat} {xs : List PD} {F1 : Hp} {σ1 : L2.St} (es : σ1[s]? = some (some (.ref a))) : WkOk K (Itl K a) (.own s p xs) F1 σ1 := by
  intro G i ρ F σ H R _ hk hs
  obtain ⟨b, vs, eb, hb, ds⟩ := R.own_ls (show ρ[s]? = some (some (.ls p xs)) from hk)
  have hs : σ[s]? = σ1[s]? := hs
  rw [hs, es] at eb
  have eab : a = b := by simpa using eb
  subst eab
  have q : SqL K H a vs := SqL.of hb
  have hl : vs.length = xs.length := ds.length
  refine ⟨fun h => ⟨vs, q, by rw [hl]; exact h⟩, fun h => ?_⟩
  have h : i < xs.length := h
  obtain ⟨d, hd⟩ : ∃ d, xs[i]? = some d := ⟨xs[i]'h, List.getElem?_eq_getElem h⟩
  obtain ⟨v, hv, dv⟩ := ds.get hd
  refine ⟨⟨vs, v, q, hv⟩, fun x H' y => ?_⟩
  obtain ⟨rfl, y⟩ := y
  have := y vs q
  rw [hv] at this
  cases this
  exact ⟨F, d, Grow.refl R.fh, hd, dv⟩
theorem LI.own [Pn] (s : Nat) (h : PE X e (tVar s)) : LI X tg e (iOwn s) := ⟨piImp (pi_seq h) fun σ H R ⟨G, ρ, F, Q', Rl, q, c⟩ => by
  unfold iOwn at q
  split at q
  · rename_i p xs er
    obtain ⟨a, vs, es, ha, ds⟩ := Rl.own_ls er
    exact ⟨_, es, .inl ⟨a, vs, rfl, SqL.of ha, c _ _ _ _ _ q Rl (Same.refl _) (wk_own es)⟩⟩
  · rename_i xs er
    obtain ⟨v, es, d⟩ := Rl.sl s _ er
    cases d with
    | lst hq ds => exact ⟨_, es, .inl ⟨_, _, rfl, rdSq (rdM Rl.fh hq), c _ _ _ _ _ q Rl (Same.refl _) (wk_list hq ds)⟩⟩
  · rename_i xs er
    obtain ⟨v, es, d⟩ := Rl.sl s _ er
    cases d with
    | tup hq ds => exact ⟨_, es, .inr ⟨_, _, rfl, seqT Rl.fh hq, c _ _ _ _ _ q Rl (Same.refl _) (wk_tup hq ds)⟩⟩
  · exact False.elim q⟩
def rngD (lo : Int) (n : Nat) : List PD := (List.range n).map fun i => .int (lo + (i : Nat))
theorem wk_range [Pn] {lo : Int} {n : Nat} {F1 : Hp} {σ1 : L2.St} : WkOk K (Itr lo n) (.items (rngD lo n)) F1 σ1 := by
  intro G i ρ F σ H R s _ _
  have hl : (rngD lo n).length = n := by unfold rngD; rw [List.length_map, List.length_range]
  refine ⟨fun h => by show n ≤ i; have h : (rngD lo n).length ≤ i := h; omega, fun h => ?_⟩
  have h : i < (rngD lo n).length := h
  rw [hl] at h
  refine ⟨h, fun x H' y => ?_⟩
  obtain ⟨rfl, rfl⟩ := y
  refine ⟨F, .int (lo + (i : Nat)), Grow.refl R.fh, ?_, .int _⟩
  show (rngD lo n)[i]? = _
  unfold rngD
  rw [List.getElem?_map, List.getElem?_range h]
  rfl
def iRg (t : TAd) : TId := fun ρ Q => t ρ fun as ρ1 => resA ρ1 as fun xs => match xs with
  | [.int j] => (-(2 ^ 62) ≤ j ∧ j < 2 ^ 62) ∧ Q (.items (rngD 0 j.toNat)) ρ1
  | [.int i, .int j] => (-(2 ^ 62) ≤ i ∧ i < 2 ^ 62 ∧ -(2 ^ 62) ≤ j ∧ j < 2 ^ 62) ∧ Q (.items (rngD i (j - i).toNat)) ρ1
  | _ => False
variable {p : Pos} {tt : TAd}
theorem LI.range1 [Pn] (hg : Gl X "range") (hm : X.mg "range" = none) (ha : LA X [e] tt) (hs : starEach [e] X.env = [(false, eval e X.env)] := by rfl) : LI X tg (.Call (.Name "range" p) [e] [] pos) (iRg tt) :=
  ⟨piImp (pi_range1 hg hm ha.p hs) fun σ H R ⟨G, ρ, F, Q', Rl, q, c⟩ => ⟨G, ρ, F, _, Rl, q, fun as ρ1 vs H1 F1 h1 hl R1 s1 av => by
    obtain ⟨xs, h2, d⟩ := resA_dr R1 av h1
    split at h2
    · obtain ⟨w, rfl, d1⟩ := d.one
      rw [d1.int]
      exact ⟨_, rfl, h2.1.1, h2.1.2, c _ _ _ _ _ h2.2 R1 s1 wk_range⟩
    · have := av.length
      obtain ⟨w1, w2, rfl, _, _⟩ := d.two
      rw [hl] at this; simp at this
    · exact False.elim h2⟩⟩
theorem LI.range2 [Pn] (hg : Gl X "range") (hm : X.mg "range" = none) (ha : LA X [e, e2] tt) (hs : starEach [e, e2] X.env = [(false, eval e X.env), (false, eval e2 X.env)] := by rfl) (hs2 : starEach [e2] X.env = [(false, eval e2 X.env)] := by rfl) :
    LI X tg (.Call (.Name "range" p) [e, e2] [] pos) (iRg tt) :=
  ⟨piImp (pi_range2 hg hm ha.p hs hs2) fun σ H R ⟨G, ρ, F, Q', Rl, q, c⟩ => ⟨G, ρ, F, _, Rl, q, fun as ρ1 vs H1 F1 h1 hl R1 s1 av => by
    obtain ⟨xs, h2, d⟩ := resA_dr R1 av h1
    split at h2
    · have := av.length
      obtain ⟨w1, rfl, _⟩ := d.one
      rw [hl] at this; simp at this
    · obtain ⟨w, w2, rfl, d1, d2⟩ := d.two
      rw [d1.int, d2.int]
      exact ⟨_, _, rfl, h2.1, c _ _ _ _ _ h2.2 R1 s1 wk_range⟩
    · exact False.elim h2⟩⟩
theorem wk_pair [Pn] {J : It} {f : Nat → Option V} {g : Nat → Option V} {F1 : Hp} {σ1 : L2.St} {a b : List PD} {n : Nat} {xs : List PD} (hl : xs.length = n)
    (hst : ∀ i F H, Same F1 F → Same F H → n ≤ i → J.stop i H) (hgo : ∀ i F H, Same F1 F → Same F H → i < n → J.go i H)
    (hy : ∀ i F H x H', Same F1 F → Same F H → i < n → J.yld i H x H' → ∃ T u w d1 d2, x = .ref T ∧ H T = none ∧ H' = upd H T (.tup [u, w]) ∧ Df K F1 u d1 ∧ Df K F1 w d2 ∧ xs[i]? = some (.tuple [d1, d2])) : WkOk K J (.items xs) F1 σ1 := by
  intro G i ρ F σ H R s _ _
  refine ⟨fun h => hst i F H s R.fh (by have h : xs.length ≤ i := h; omega), fun h => ?_⟩
  have h : i < xs.length := h
  rw [hl] at h
  refine ⟨hgo i F H s R.fh h, fun x H' y => ?_⟩
  obtain ⟨T, u, w, d1, d2, rfl, hT, rfl, q1, q2, e⟩ := hy i F H x H' s R.fh h y
  have g := Grow.frozen R.fh hT (.tup [u, w])
  exact ⟨_, _, g, e, .tup (SqT.of upd_same) (.cons ((q1.mono s).mono g.ff) (.cons ((q2.mono s).mono g.ff) .nil))⟩
def enumD (xs : List PD) : List PD := (List.range xs.length).map fun i => .tuple [.int (i : Nat), xs.getD i .none]
def iEnm (t : TD) : TId := fun ρ Q => t ρ fun x ρ1 => match x with
  | .list xs => Q (.items (enumD xs)) ρ1
  | _ => False
theorem enumD_get {xs : List PD} {i : Nat} {d : PD} (h : xs[i]? = some d) : (enumD xs)[i]? = some (.tuple [.int (i : Nat), d]) := by
  unfold enumD
  have hi := (List.getElem?_eq_some_iff.mp h).1
  rw [List.getElem?_map, List.getElem?_range hi]
  simp [List.getD_eq_getElem?_getD, h]
theorem LI.enum [Pn] {elts : List Expr} {kk : Nat} {tpos : Pos} (hg : Gl X "enumerate") (hm : X.mg "enumerate" = none) (h : LD X e ta) (hs : starEach [e] X.env = [(false, eval e X.env)] := by rfl) :
    LI X (.Tuple elts kk tpos) (.Call (.Name "enumerate" p) [e] [] pos) (iEnm ta) :=
  ⟨piImp (pi_enum hg hm (pa_cons h.p pa_nil hs) hs) fun σ H R ⟨G, ρ, F, Q', Rl, q, c⟩ => ⟨G, ρ, F, _, Rl, q, fun x ρ1 v H1 F1 h1 R1 s1 d => by
    split at h1
    · rename_i xs
      cases d with
      | lst hq ds =>
        rename_i a vs
        have hl : vs.length = xs.length := ds.length
        refine ⟨a, vs, rfl, rdSq (rdM R1.fh hq), c _ _ _ _ _ h1 R1 s1 (wk_pair (f := fun _ => none) (g := fun _ => none) (a := []) (b := []) (n := xs.length) (by unfold enumD; simp) ?_ ?_ ?_)⟩
        · exact fun i F H s s2 hi => ⟨vs, rdSq (rdM s2 (rdM s hq)), by omega⟩
        · intro i F H s s2 hi
          exact ⟨vs, vs[i]'(by omega), rdSq (rdM s2 (rdM s hq)), List.getElem?_eq_getElem _⟩
        · intro i F H x H' s s2 hi ⟨T, u, e1, hT, e2, hu⟩
          have hu := hu vs (rdSq (rdM s2 (rdM s hq)))
          obtain ⟨d, hd, du⟩ := ds.get' hu
          exact ⟨T, _, u, .int (i : Nat), d, e1, hT, e2, .int _, du, enumD_get hd⟩
    · exact False.elim h1⟩⟩
def zipD (xs ys : List PD) : List PD := List.zipWith (fun a b => .tuple [a, b]) xs ys
def iZp (t : TAd) : TId := fun ρ Q => t ρ fun as ρ1 => resFA ρ1 as fun xs => match xs with
  | [.list xs, .list ys] => Q (.items (zipD xs ys)) ρ1
  | [.tuple xs, .tuple ys] => Q (.items (zipD xs ys)) ρ1
  | _ => False
theorem zipD_get {xs ys : List PD} {i : Nat} {d d2 : PD} (h : xs[i]? = some d) (h2 : ys[i]? = some d2) : (zipD xs ys)[i]? = some (.tuple [d, d2]) := by
  unfold zipD
  rw [List.getElem?_zipWith, h, h2]
theorem LI.zip [Pn] {elts : List Expr} {kk : Nat} {tpos : Pos} (hg : Gl X "zip") (hm : X.mg "zip" = none) (h : LA X [e, e2] tt)
    (hs : starEach [e, e2] X.env = (false, eval e X.env) :: starEach [e2] X.env := by rfl) (hpl : (backTo pos (starEach [e2] X.env)).any (·.1) = false := by rfl) :
    LI X (.Tuple elts kk tpos) (.Call (.Name "zip" p) [e, e2] [] pos) (iZp tt) :=
  ⟨piImp (RZ.pi_zipA hg hm h.p hs hpl) fun σ H R ⟨G, ρ, F, Q', Rl, q, c⟩ => ⟨G, ρ, F, _, Rl, q, fun as ρ1 us H1 F1 h1 hln R1 s1 av => by
    obtain ⟨zs, h2, dz⟩ := resFA_df R1 av h1
    split at h2
    · rename_i xs ys
      cases dz with | cons d dz => cases dz with | cons d2 dz => cases dz; cases d with | lst hq ds => cases d2 with | lst hq2 ds2 =>
        rename_i a vs b ws
        have hl : vs.length = xs.length := ds.length
        have hl2 : ws.length = ys.length := ds2.length
        refine ⟨a, b, vs, ws, rfl, .inl ⟨rdSq (rdM R1.fh hq), rdSq (rdM R1.fh hq2), c _ _ _ _ _ h2 R1 s1 (wk_pair (f := fun _ => none) (g := fun _ => none) (a := []) (b := []) (n := min xs.length ys.length) (by unfold zipD; simp) ?_ ?_ ?_)⟩⟩
        · exact fun i F H s s2 hi => ⟨vs, ws, rdSq (rdM s2 (rdM s hq)), rdSq (rdM s2 (rdM s hq2)), by omega⟩
        · intro i F H s s2 hi
          exact ⟨vs, ws, vs[i]'(by omega), ws[i]'(by omega), rdSq (rdM s2 (rdM s hq)), rdSq (rdM s2 (rdM s hq2)), List.getElem?_eq_getElem _, List.getElem?_eq_getElem _⟩
        · intro i F H x H' s s2 hi ⟨T, u, w, e1, hT, e2, hu, hw⟩
          have hu := hu vs (rdSq (rdM s2 (rdM s hq)))
          have hw := hw ws (rdSq (rdM s2 (rdM s hq2)))
          obtain ⟨d, hd, du⟩ := ds.get' hu
          obtain ⟨d', hd', dw⟩ := ds2.get' hw
          exact ⟨T, u, w, d, d', e1, hT, e2, du, dw, zipD_get hd hd'⟩
    · rename_i xs ys
      cases dz with | cons d dz => cases dz with | cons d2 dz => cases dz; cases d with | tup hq ds => cases d2 with | tup hq2 ds2 =>
        rename_i a vs b ws
        have hl : vs.length = xs.length := ds.length
        have hl2 : ws.length = ys.length := ds2.length
        refine ⟨a, b, vs, ws, rfl, .inr ⟨seqT R1.fh hq, seqT R1.fh hq2, c _ _ _ _ _ h2 R1 s1 (wk_pair (f := fun _ => none) (g := fun _ => none) (a := []) (b := []) (n := min xs.length ys.length) (by unfold zipD; simp) ?_ ?_ ?_)⟩⟩
        · exact fun i F H s s2 hi => ⟨vs, ws, seqT s2 (seqT s hq), seqT s2 (seqT s hq2), by omega⟩
        · intro i F H s s2 hi
          exact ⟨vs, ws, vs[i]'(by omega), ws[i]'(by omega), seqT s2 (seqT s hq), seqT s2 (seqT s hq2), List.getElem?_eq_getElem _, List.getElem?_eq_getElem _⟩
        · intro i F H x H' s s2 hi ⟨T, u, w, e1, hT, e2, hu, hw⟩
          have hu := hu vs (seqT s2 (seqT s hq))
          have hw := hw ws (seqT s2 (seqT s hq2))
          obtain ⟨d, hd, du⟩ := ds.get' hu
          obtain ⟨d', hd', dw⟩ := ds2.get' hw
          exact ⟨T, u, w, d, d', e1, hT, e2, du, dw, zipD_get hd hd'⟩
    · exact False.elim h2⟩⟩
def sFor (src : TId) (pt : Pt) (b : TSt) : TSt := fun D ρ => src ρ fun w ρ1 => ∃ xs, w = .items xs ∧ ∃ I : Nat → En → Prop, I 0 ρ1 ∧
  (∀ i x ρ2, xs[i]? = some x → I i ρ2 → pt.go x ρ2 fun ρ3 => b { D with nx := I (i + 1), ct := I (i + 1), bk := D.nx } ρ3) ∧ ∀ ρ2, I xs.length ρ2 → D.nx ρ2
theorem LS.for [Pn] {src : TId} {pt : Pt} (hp : PassesOwn (model X.prog X.w) X.A X.env X.xe) (hc : X.calm = true) (hi : LI X tg e src) (hg : PG X tg (pt.tg X.K)) (hb : LSs X sts t)
    (hs : ∀ x, foldedSetIterable e X.env x = pure x := by intro _; rfl) : LS X (.For tg e sts [] pos) (sFor src pt t) := ⟨psImp (ps_for hp hc hi.p hg hb.p hs) fun D σ H ⟨G, ρ, F, D', R, q, k⟩ => ⟨G, ρ, F, _, R, q, fun w ρ1 H1 F1 J h1 R1 s1 wk => by
  obtain ⟨xs, rfl, I, i0, turn, fin⟩ := h1
  refine ⟨fun i m σ H => m = xs.length - i ∧ i ≤ xs.length ∧ ∃ ρ2 F2, Rel X.K G ρ2 F2 σ H ∧ Same F1 F2 ∧ I i ρ2, ⟨xs.length, rfl, Nat.zero_le _, ρ1, F1, R1, Same.refl _, i0⟩, ?_⟩
  rintro i m σ2 H2 ⟨rfl, hi, ρ2, F2, R2, s2, i2⟩
  obtain ⟨wstop, wgo⟩ := wk G i ρ2 F2 σ2 H2 R2 s2 trivial trivial
  by_cases hlt : i < xs.length
  · obtain ⟨go, yld⟩ := wgo hlt
    refine .inr ⟨go, fun σ' H' => ∃ ρ' F', Rel X.K G ρ' F' σ' H' ∧ Same F1 F' ∧ I (i + 1) ρ', fun σ' H' ⟨ρ', F', R', s', i'⟩ => ⟨_, by omega, rfl, hlt, ρ', F', R', s', i'⟩, fun x H' y => ?_⟩
    obtain ⟨F', d, g, ed, dd⟩ := yld x H' y
    refine pt_go pt (R2.grow g) dd (turn i d ρ2 ed i2) fun ρ3 σ3 q3 R3 _ => ?_
    have s3 := s1.trans (s2.trans g.ff)
    exact ⟨G, ρ3, F', _, R3, q3, ⟨fun ρ4 σ4 H4 F4 h R s => ⟨ρ4, F4, R, (s2.trans g.ff).trans s, h⟩, fun l ρ4 v σ4 H4 F4 h R s r => k.rt _ _ _ _ _ _ h R (s3.trans s) r,
      fun ρ4 σ4 H4 F4 h R s => k.nx _ _ _ _ h R (s3.trans s), fun ρ4 σ4 H4 F4 h R s => ⟨ρ4, F4, R, (s2.trans g.ff).trans s, h⟩⟩⟩
  · have ei : i = xs.length := by omega
    subst ei
    exact .inl ⟨wstop (Nat.le_refl _), k.nx _ _ _ _ (fin ρ2 i2) R2 (s1.trans s2)⟩⟩⟩
end
end DL
namespace DL
open PySem L2 PyProof.Rows
section
variable {G : Gm} {X : Cx} {K : PySem.W.Frag} {F F' F1 F2 H H' H1 : Hp} {ρ ρ1 ρ2 : En} {σ : L2.St} {e e2 e3 tg elt iter : Expr} {es ifs : List Expr} {pos : Pos} {oa ob oc : Op1} {ta tb el : TD} {c : TTd} {st : Stmt} {sts sts2 : List Stmt} {t u : TSt} {tf tf2 : TF} {v : V} {x : PD}
def wipeE (ρ : En) : List Nat → En
  | [] => ρ
  | v :: vs => (wipeE ρ vs).set v none
def restE (ρ1 ρ2 : En) : List Nat → En
  | [] => ρ2
  | j :: js => (restE ρ1 ρ2 js).set j (ρ1.getD j none)
def lcFree (ρ : En) (vs : List Nat) : Bool := vs.all fun j => match ρ[j]? with
  | some (some l) => !l.own
  | _ => true
theorem wipe_ne {vs : List Nat} {i : Nat} (h : i ∉ vs) : (wipe σ vs)[i]? = σ[i]? := by
  induction vs with
  | nil => rfl
  | cons v vs ih =>
    show ((wipe σ vs).set v none)[i]? = σ[i]?
    rw [List.getElem?_set_ne (fun z => h (by rw [z]; exact List.mem_cons_self))]
    exact ih fun z => h (List.mem_cons_of_mem _ z)
theorem wipeE_length (vs : List Nat) : (wipeE ρ vs).length = ρ.length := by
  induction vs with
  | nil => rfl
  | cons v vs ih => show ((wipeE ρ vs).set v none).length = _; rw [List.length_set, ih]
theorem wipeE_get {vs : List Nat} {i : Nat} {l : Lc} (h : (wipeE ρ vs)[i]? = some (some l)) : i ∉ vs ∧ ρ[i]? = some (some l) := by
  induction vs with
  | nil => exact ⟨by simp, h⟩
  | cons v vs ih =>
    have h : ((wipeE ρ vs).set v none)[i]? = some (some l) := h
    rcases set_get h with ⟨_, _, z⟩ | ⟨hne, h⟩
    · cases z
    · obtain ⟨h1, h2⟩ := ih h
      exact ⟨by simp only [List.mem_cons, not_or]; exact ⟨hne, h1⟩, h2⟩
theorem restE_length (vs : List Nat) : (restE ρ1 ρ2 vs).length = ρ2.length := by
  induction vs with
  | nil => rfl
  | cons v vs ih => show ((restE ρ1 ρ2 vs).set v _).length = _; rw [List.length_set, ih]
theorem restE_get {vs : List Nat} {i : Nat} {l : Lc} (h : (restE ρ1 ρ2 vs)[i]? = some (some l)) : (i ∈ vs ∧ ρ1[i]? = some (some l)) ∨ (i ∉ vs ∧ ρ2[i]? = some (some l)) := by
  induction vs with
  | nil => exact .inr ⟨by simp, h⟩
  | cons v vs ih =>
    have h : ((restE ρ1 ρ2 vs).set v (ρ1.getD v none))[i]? = some (some l) := h
    rcases set_get h with ⟨rfl, _, z⟩ | ⟨hne, h⟩
    · refine .inl ⟨List.mem_cons_self, ?_⟩
      rw [List.getD_eq_getElem?_getD] at z
      cases q : ρ1[i]? with
      | none => rw [q] at z; simp at z
      | some w => rw [q] at z; simp at z; rw [← z]
    · rcases ih h with ⟨a, b⟩ | ⟨a, b⟩
      · exact .inl ⟨List.mem_cons_of_mem _ a, b⟩
      · exact .inr ⟨by simp only [List.mem_cons, not_or]; exact ⟨hne, a⟩, b⟩
theorem wipe_eq {σ' : L2.St} {vs : List Nat} (hl : σ'.length = σ.length) (h : ∀ j, j ∉ vs → σ'[j]? = σ[j]?) : wipe σ' vs = wipe σ vs := by
  have key : ∀ {τ : L2.St} {i : Nat}, i < τ.length → i ∈ vs → (wipe τ vs)[i]? = some none := by
    intro τ i hi hm
    clear h
    induction vs with
    | nil => simp at hm
    | cons v vs ih =>
      show ((wipe τ vs).set v none)[i]? = _
      by_cases hv : v = i
      · subst hv; rw [List.getElem?_set_self (by rw [wipe_length]; exact hi)]
      · rw [List.getElem?_set_ne hv]
        exact ih ((List.mem_cons.mp hm).resolve_left (Ne.symm hv))
  apply List.ext_getElem?
  intro i
  by_cases hm : i ∈ vs
  · by_cases hi : i < σ.length
    · rw [key (by rw [hl]; exact hi) hm, key hi hm]
    · rw [List.getElem?_eq_none (by rw [wipe_length, hl]; omega), List.getElem?_eq_none (by rw [wipe_length]; omega)]
  · rw [wipe_ne hm, wipe_ne hm, h i hm]
theorem wipe_only {σ' : L2.St} {is vs : List Nat} (hs : ∀ i ∈ is, i ∈ vs) (o : Only is (wipe σ vs) σ') : wipe σ' vs = wipe σ vs := by
  refine wipe_eq (by rw [o.1, wipe_length]) fun j hj => ?_
  rw [o.2 j fun z => hj (hs j z), wipe_ne hj]
theorem Rel.wipe [Pn] (R : Rel K G ρ F σ H) (vs : List Nat) {σ' : L2.St} (hl : σ'.length = σ.length) (h : ∀ j, j ∉ vs → σ'[j]? = σ[j]?) : Rel K G (wipeE ρ vs) F σ' H :=
  R.weak (by rw [wipeE_length, hl]; exact R.len) fun i l e => ⟨(wipeE_get e).2, h i (wipeE_get e).1⟩
theorem Rel.rest [Pn] (R1 : Rel K G ρ1 F1 σ H1) (vs : List Nat) (hf : lcFree ρ1 vs = true) (R2 : Rel K G (wipeE ρ2 vs) F2 (L2.wipe σ vs) H) (s : Same F1 F2) : Rel K G (restE ρ1 (wipeE ρ2 vs) vs) F2 σ H := by
  have nown : ∀ {i : Nat} {l : Lc}, i ∈ vs → ρ1[i]? = some (some l) → l.own = false := fun {i l} hi e => by
    have := List.all_eq_true.mp hf i hi
    rw [e] at this
    simpa using this
  refine ⟨R2.fh, R2.ff, R2.fr, R2.nw, R2.ih, ?_, fun i l e => ?_, fun i j l m v e1 e2 h1 h2 e3 e4 => ?_, R2.ok, fun i l b xs e hb => ?_⟩
  · rw [restE_length, ← R2.len, wipe_length]
  · rcases restE_get e with ⟨hi, e⟩ | ⟨hi, e⟩
    · have z := R1.sl i l e
      rcases not_own (nown hi e) with ⟨x, rfl⟩ | ⟨w, rfl⟩
      · obtain ⟨v, e1, d⟩ := z; exact ⟨v, e1, d.mono s⟩
      · obtain ⟨v, e1, d⟩ := z; exact ⟨v, e1, d.mono s⟩
    · have z := R2.sl i l e
      rw [wipe_ne hi] at z; exact z
  · rcases restE_get e1 with ⟨hi, q⟩ | ⟨hi, q⟩
    · rw [nown hi q] at h1; cases h1
    · rcases restE_get e2 with ⟨hj, q2⟩ | ⟨hj, q2⟩
      · rw [nown hj q2] at h2; cases h2
      · exact R2.ds i j l m v q q2 h1 h2 (by rw [wipe_ne hi]; exact e3) (by rw [wipe_ne hj]; exact e4)
  · rcases restE_get e with ⟨hi, q⟩ | ⟨hi, q⟩
    · rw [Lc.fp_own (nown hi q)] at hb; cases hb
    · obtain ⟨z, w⟩ := R2.ns i l b xs q hb
      refine ⟨z, fun j m e2 => ?_⟩
      rcases restE_get e2 with ⟨hj, q2⟩ | ⟨hj, q2⟩
      · have no := nown hj q2
        exact ⟨fun z => (by rw [no] at z; cases z), fun ys hy => (by rw [Lc.fp_own no] at hy; cases hy)⟩
      · have := w j m q2
        rw [wipe_ne hj] at this; exact this
theorem Rel.side [Pn] {p : Addr} {o : HO} (R : Rel K G ρ F σ H) (hF : F p = none) (h0 : G.H0 p = none) (hf : ∀ (j : Nat) (m : Lc), ρ[j]? = some (some m) → m.own = true → σ[j]? ≠ some (some (.ref p))) (hn : NoN ρ p) : Rel K G ρ F σ (upd H p o) := by
  refine ⟨fun b u q => ?_, R.ff, fun b u q hb => ?_, R.nw, fun b hb => ⟨?_, (R.ih b hb).2⟩, R.len, fun i l e => ?_, R.ds, R.ok, fun i l b xs e hb => ⟨⟨(R.ns i l b xs e hb).1.nf, (R.ns i l b xs e hb).1.ow, ?_⟩, (R.ns i l b xs e hb).2⟩⟩
  · rw [upd_ne (ne_of_none q hF)]; exact R.fh _ _ q
  · rw [upd_ne (ne_of_none q h0)]; exact R.fr b u q hb
  · by_cases hbp : b = p
    · subst hbp; rw [upd_same]; simp
    · rw [upd_ne hbp]; exact (R.ih b hb).1
  · have z := R.sl i l e
    cases hl : l.own with
    | true =>
      rw [own_slot hl] at z ⊢
      obtain ⟨a, e1, nf, ow, ob, eo, ok⟩ := z
      have : a ≠ p := fun q => hf i l e hl (by rw [e1, q])
      exact ⟨a, e1, nf, ow, ob, by rw [upd_ne this]; exact eo, ok⟩
    | false =>
      rcases not_own hl with ⟨x, rfl⟩ | ⟨w, rfl⟩
      · exact z
      · exact z
  · obtain ⟨vs, z1, z2⟩ := (R.ns i l b xs e hb).1.ob
    exact ⟨vs, by rw [upd_ne fun q => hn i l xs e (by rw [← q]; exact hb)]; exact z1, z2⟩
def Wk.apart (vs : List Nat) : Wk → Bool
  | .items _ => true
  | .own s _ _ => !vs.contains s
  | .nst _ _ _ _ => true
def fLc (src : TId) (vs : List Nat) (pt : Pt) (c : TTd) (el : TD) : TF := fun ρ Q => src ρ fun w ρ1 => (lcFree ρ1 vs = true ∧ w.apart vs = true) ∧ ∃ I : Nat → List PD → En → Prop, I 0 [] (wipeE ρ1 vs) ∧
  (∀ i acc ρ2, I i acc ρ2 → w.keeps ρ2) ∧
  (∀ i x acc ρ2, w.list[i]? = some x → I i acc ρ2 → pt.go x ρ2 fun ρ3 => c ρ3 fun b ρ4 => brB b (el ρ4 fun y ρ5 => acc.length < sizeLine ∧ I (i + 1) (acc ++ [y]) (wipeE ρ5 vs)) (I (i + 1) acc (wipeE ρ4 vs))) ∧
  ∀ acc ρ2, I w.list.length acc ρ2 → Q (.ls none acc) (restE ρ1 ρ2 vs)
theorem tLc_of [Pn] {src : TId} {vs : List Nat} {pt : Pt} (hs : ∀ i ∈ pt.slots, i ∈ vs) {Q : VK} (h : liftF K (fLc src vs pt c el) σ H Q) : tLc (liftI K src) (pt.tg K) (liftT K c) (liftD K el) vs σ H Q := by
  obtain ⟨G, ρ, F, Q', R, q, k⟩ := h
  refine ⟨G, ρ, F, _, R, q, fun w ρ1 H1 F1 J q1 R1 s1 wk D hD => ?_⟩
  obtain ⟨⟨hfree, hap⟩, I, i0, ikeep, turn, fin⟩ := q1
  have h0 : G.H0 D = none := R1.h0 hD
  have dio : D ∉ G.io := fun z => (R1.ih D z).2 h0
  have kS : w.keepS (L2.wipe σ vs) σ := by
    cases w with
    | items xs => trivial
    | nst s nm b xs => trivial
    | own s p xs =>
      have : s ∉ vs := by simpa [Wk.apart] using hap
      exact wipe_ne this
  let Hd := fun (i : Nat) (H : Hp) => ∃ ρ2 F2 accV acc, Rel K G (wipeE ρ2 vs) F2 (L2.wipe σ vs) H ∧ Same F1 F2 ∧ H D = some (.lst accV) ∧ DfA K F2 accV acc ∧ F2 D = none ∧ NoN (wipeE ρ2 vs) D ∧
    (∀ (j : Nat) (m : Lc), (wipeE ρ2 vs)[j]? = some (some m) → m.own = true → (L2.wipe σ vs)[j]? ≠ some (some (.ref D))) ∧ I i acc (wipeE ρ2 vs)
  have start : Hd 0 (upd H1 D (.lst [])) := by
    have Rw := R1.wipe vs (σ' := L2.wipe σ vs) (wipe_length σ vs) fun j hj => wipe_ne hj
    refine ⟨ρ1, F1, [], [], Rw.grow (Grow.owned R1.fh hD _), Same.refl _, upd_same, .nil, R1.fh.free hD, ((R1.noN_free hD).sub fun j m e => (wipeE_get e).2), fun j m e hm z => ?_, i0⟩
    obtain ⟨a, e1, _, _, ob, eo, _⟩ := Rw.at_ e hm
    rw [z] at e1
    have : D = a := by simpa using e1
    subst this
    rw [hD] at eo; cases eo
  refine ⟨fun i m H => m = w.list.length - i ∧ i ≤ w.list.length ∧ Hd i H, ⟨w.list.length, rfl, Nat.zero_le _, start⟩, ?_⟩
  rintro i m H2 ⟨rfl, hi, ρ2, F2, accV, acc, R2, s2, hDv, dA, fD, nN, nD, i2⟩
  obtain ⟨wstop, wgo⟩ := wk G i _ F2 _ H2 R2 s2 (ikeep _ _ _ i2) kS
  by_cases hlt : i < w.list.length
  · obtain ⟨go, yld⟩ := wgo hlt
    refine .inr ⟨go, Hd (i + 1), fun H' h => ⟨_, by omega, rfl, hlt, h⟩, fun x H' y => ?_⟩
    obtain ⟨F', d, g, ed, dd⟩ := yld x H' y
    have R3 := R2.grow g
    have fD' : F' D = none := by
      cases q : F' D with
      | none => rfl
      | some u =>
        rcases g.nw D (by rw [q]; simp) fD with this | ⟨us, this⟩
        · rw [hDv] at this; cases this
        · have this := g.fh _ _ this
          rw [g.hh _ _ hDv] at this; cases this
    have Rp := R3.pin fD' (g.hh _ _ hDv) h0 nD nN
    refine pt_go pt Rp dd (turn i d acc _ ed i2) fun ρ3 σ3 q3 R4 o3 => ⟨wipe_only hs o3, G.pin D (.lst accV), ρ3, F', _, R4, q3, fun b ρ4 H4 F4 h4 R5 s5 => ?_⟩
    have hj : ∀ j, j ∉ vs → (L2.wipe σ vs)[j]? = σ3[j]? := fun j hj => (o3.2 j fun z => hj (hs j z)).symm
    have hl3 : (L2.wipe σ vs).length = σ3.length := o3.1.symm
    cases b with
    | false =>
      obtain ⟨R6, f6, h6, n6⟩ := R5.unpin R1.ok h0 (R1.ff.free (R1.fh.free hD)) dio
      refine iteF ⟨ρ4, F4, accV, acc, R6.wipe vs hl3 hj, s2.trans (g.ff.trans s5), h6, dA.mono (g.ff.trans s5), f6, ((R5.unpinN dio).sub fun j m e => (wipeE_get e).2), fun j m e hm z => ?_, h4.2 rfl⟩
      obtain ⟨a, b⟩ := wipeE_get e
      exact n6 j m b hm (by rw [← hj j a]; exact z)
    | true =>
      refine iteT ⟨G.pin D (.lst accV), ρ4, F4, _, R5, h4.1 rfl, fun y ρ5 u H5 F5 h5 R7 s7 dy => ?_⟩
      obtain ⟨hlen, h5⟩ := h5
      obtain ⟨R6, f6, h6, n6⟩ := R7.unpin R1.ok h0 (R1.ff.free (R1.fh.free hD)) dio
      have sA := g.ff.trans (s5.trans s7)
      refine ⟨accV, h6, by rw [dA.length]; exact hlen, ρ5, F5, accV ++ [u], acc ++ [y], ?_, s2.trans sA, upd_same, (dA.mono sA).snoc dy, f6, ((R7.unpinN dio).sub fun j m e => (wipeE_get e).2), fun j m e hm z => ?_, h5⟩
      · exact (R6.side f6 h0 n6 (R7.unpinN dio)).wipe vs hl3 hj
      · obtain ⟨a, b⟩ := wipeE_get e
        exact n6 j m b hm (by rw [← hj j a]; exact z)
  · have ei : i = w.list.length := by omega
    subst ei
    refine .inl ⟨wstop (Nat.le_refl _), k (.ls none acc) _ _ H2 F2 (fin acc _ i2) (R1.rest vs hfree R2 s2) (s1.trans s2) ⟨D, rfl, rfl, ⟨fD, h0, _, hDv, dA⟩, ⟨fun j m e hm z => ?_, fun j m ys e hy => ?_, .nil rfl⟩⟩⟩
    · rcases restE_get e with ⟨hj, e⟩ | ⟨hj, e⟩
      · have := List.all_eq_true.mp hfree j hj
        rw [e] at this
        have this : (!m.own) = true := this
        rw [hm] at this; cases this
      · exact nD j m e hm (by rw [wipe_ne hj]; exact z)
    · rcases restE_get e with ⟨hj, e⟩ | ⟨hj, e⟩
      · have := List.all_eq_true.mp hfree j hj
        rw [e] at this
        have this : (!m.own) = true := this
        rw [Lc.fp_own (by simpa using this)] at hy; cases hy
      · exact nN j m ys e hy
def cYes : TTd := fun ρ Q => Q true ρ
theorem LT.yes [Pn] : ∀ {X : Cx}, PTs X [] (liftT X.K cYes) := fun {X} => ⟨fun pins s σ H Q I h => pts_nil.run pins s σ H Q I (by
  obtain ⟨G, ρ, F, Q', R, q, k⟩ := h
  exact k _ _ _ _ q R (Same.refl _))⟩
theorem LF.lc [Pn] {scope : Scope} {own : List (Str × Nat)} {vs : List Nat} {src : TId} {pt : Pt} (hc : X.calm = true) (hN : X.N.Nodup) (hi : LI X tg iter src) (ok : BlkOk X.N X.env.scope scope own) (hv : own.map (·.2) = vs) (hs : ∀ i ∈ pt.slots, i ∈ vs)
    (hg : ∀ (s : Shared) (H : Hp) (C : Addr) (cl : List (Str × Addr)) (fp : List Addr), PG (X.blk s H scope (compEnvC scope cl C X.env) fp) tg (pt.tg X.K)) (ht : ∀ (s : Shared) (H : Hp) (C : Addr) (cl : List (Str × Addr)) (fp : List Addr), PTs (X.blk s H scope (compEnvC scope cl C X.env) fp) ifs (liftT X.K c))
    (he : ∀ (s : Shared) (H : Hp) (C : Addr) (cl : List (Str × Addr)) (fp : List Addr), LD (X.blk s H scope (compEnvC scope cl C X.env) fp) elt el) (hf : ∀ x, foldedSetIterable iter X.env x = pure x := by intro _; rfl) :
    LF X (.ListComp elt [⟨tg, iter, ifs, 0⟩] scope pos) (fLc src vs pt c el) := ⟨peImp (pe_lc hc hN hi.p ok hg ht (fun s H C cl fp => (he s H C cl fp).p) hf) fun σ H Q h => by rw [hv]; exact tLc_of hs h⟩
theorem LS.lc [Pn] {i : Nat} {y : Str} {py spos : Pos} {scope : Scope} {own : List (Str × Nat)} {vs : List Nat} {src : TId} {pt : Pt} (hc : X.calm = true) (hN : X.N.Nodup) (hy : X.N[i]? = some y) (hyl : X.env.scope.names.lookup y = some .local)
    (hsw : swapsWith (.ListComp elt [⟨tg, iter, ifs, 0⟩] scope pos) (some (.Name y py)) spos.line X.env = pure true) (hi : LI X tg iter src) (ok : BlkOk X.N X.env.scope scope own) (hv : own.map (·.2) = vs) (hs : ∀ i ∈ pt.slots, i ∈ vs)
    (hg : ∀ (s : Shared) (H : Hp) (C : Addr) (cl : List (Str × Addr)) (fp : List Addr), PG (X.blk s H scope (compEnvC scope cl C X.env) fp) tg (pt.tg X.K)) (ht : ∀ (s : Shared) (H : Hp) (C : Addr) (cl : List (Str × Addr)) (fp : List Addr), PTs (X.blk s H scope (compEnvC scope cl C X.env) fp) ifs (liftT X.K c))
    (he : ∀ (s : Shared) (H : Hp) (C : Addr) (cl : List (Str × Addr)) (fp : List Addr), LD (X.blk s H scope (compEnvC scope cl C X.env) fp) elt el) (hf : ∀ x, foldedSetIterable iter X.env x = pure x := by intro _; rfl) :
    LS X (.Assign [.Name y py] (.ListComp elt [⟨tg, iter, ifs, 0⟩] scope pos) spos) (sAsg i (fLc src vs pt c el)) := ⟨psImp (ps_setLc hc hN hy hyl hsw hi.p ok hg ht (fun s H C cl fp => (he s H C cl fp).p) hf) fun D σ H ⟨G, ρ, F, D', R, q, k⟩ => by
  have h : liftF X.K (fLc src vs pt c el) σ H (fun x H1 => gName i x σ H1 D.nx) := ⟨G, ρ, F, _, R, q, fun l ρ1 v H1 F1 h1 R1 s1 r1 => k.nx _ _ _ _ h1 (r1.store R1 i) s1⟩
  show tLc _ _ _ _ (own.map (·.2)) σ H _
  rw [hv]
  exact tLc_of hs h⟩
structure FSpec where
  sp : List Lc → (Lc → List Lc → Prop) → Prop
def ArgOk (K : PySem.W.Frag) (F H : Hp) (ios : List Addr) : Lc → V → Prop
  | .d x, v => Df K F v x
  | .sc xs, v => ScOk K F xs v
  | l, v => ∃ a k, v = .ref a ∧ l.tag = some k ∧ ios[k]? = some a ∧ F a = none ∧ (∃ o, H a = some o ∧ HoOk K F l o) ∧ ∀ b xs, (b, xs) ∈ l.fp → F b = none ∧ ∃ vs, H b = some (.lst vs) ∧ DfA K F vs xs
inductive ArgsOk (K : PySem.W.Frag) (F H : Hp) (ios : List Addr) : List Lc → List V → Prop
  | nil : ArgsOk K F H ios [] []
  | cons {l : Lc} {v : V} {ls : List Lc} {vs : List V} : ArgOk K F H ios l v → ArgsOk K F H ios ls vs → ArgsOk K F H ios (l :: ls) (v :: vs)
def tags (ls : List Lc) : List Nat := ls.filterMap Lc.tag
def nioOf : List Lc → List (Nat × Addr)
  | [] => []
  | l :: r => (match l.tag with
    | some k => l.fp.map fun x => (k, x.1)
    | none => []) ++ nioOf r
theorem nioOf_mem : ∀ {args : List Lc} {k : Nat} {b : Addr}, (k, b) ∈ nioOf args → ∃ (i : Nat) (l : Lc) (xs : List PD), args[i]? = some l ∧ l.tag = some k ∧ (b, xs) ∈ l.fp
  | [], k, b, h => by cases h
  | l :: r, k, b, h => by
    unfold nioOf at h
    rcases List.mem_append.mp h with h | h
    · cases e : l.tag with
      | none => rw [e] at h; cases h
      | some j =>
        rw [e] at h
        obtain ⟨x, hx, ex⟩ := List.mem_map.mp h
        have e1 : j = k := (Prod.mk.inj ex).1
        have e2 : x.1 = b := (Prod.mk.inj ex).2
        exact ⟨0, l, x.2, rfl, by rw [e, e1], by rw [← e2]; exact hx⟩
    · obtain ⟨i, m, xs, z⟩ := nioOf_mem h
      exact ⟨i + 1, m, xs, by simpa using z⟩
theorem nioOf_in : ∀ {args : List Lc} {i k : Nat} {l : Lc} {b : Addr} {xs : List PD}, args[i]? = some l → l.tag = some k → (b, xs) ∈ l.fp → (k, b) ∈ nioOf args
  | [], i, k, l, b, xs, e, _, _ => by simp at e
  | a :: r, i, k, l, b, xs, e, t, h => by
    unfold nioOf
    refine List.mem_append.mpr ?_
    cases i with
    | zero =>
      simp at e; subst e
      rw [t]
      exact .inl (List.mem_map.mpr ⟨(b, xs), h, rfl⟩)
    | succ i => exact .inr (nioOf_in (by simpa using e) t h)
structure IoOk (H : Hp) (ios : List Addr) (n : Nat) (args : List Lc) : Prop where
  nd : ios.Nodup
  ex : ∀ a ∈ ios, H a ≠ none
  tg : tags args = List.range n
  le : n ≤ ios.length
  nx : ∀ k b, (k, b) ∈ nioOf args → b ∈ ios.drop n
  dj : ∀ (i j : Nat) (l m : Lc) (b : Addr) (xs ys : List PD), args[i]? = some l → args[j]? = some m → (b, xs) ∈ l.fp → (b, ys) ∈ m.fp → i = j
theorem drop_ne {ios : List Addr} {n k : Nat} {a b : Addr} (nd : ios.Nodup) (h : b ∈ ios.drop n) (hk : k < n) (e : ios[k]? = some a) : a ≠ b := fun q => by
  subst q
  obtain ⟨j, hj, ej⟩ := List.getElem_of_mem h
  rw [List.getElem_drop] at ej
  obtain ⟨hk', ek⟩ := List.getElem?_eq_some_iff.mp e
  have hj2 : n + j < ios.length := by rw [List.length_drop] at hj; omega
  have := (List.getElem_inj (h₀ := hj2) (h₁ := hk') nd).mp (ej.trans ek.symm)
  omega
structure Post (K : PySem.W.Frag) (F H : Hp) (ios : List Addr) (n : Nat) (nio : List (Nat × Addr)) (r : Lc) (outs : List Lc) (v : V) (F' H' : Hp) : Prop where
  ff : Same F F'
  fh : Same F' H'
  fr : ∀ b o, H b = some o → b ∉ ios → H' b = some o
  nw : ∀ b, F' b ≠ none → F b = none → H b = none ∨ ∃ us, F' b = some (.tup us)
  ol : outs.length = n
  ou : ∀ (k : Nat) (l : Lc), outs[k]? = some l → ∃ a o, ios[k]? = some a ∧ F' a = none ∧ H' a = some o ∧ HoOk K F' l o ∧ l.tag = some k
  hx : ∀ a ∈ ios, H' a ≠ none
  on : ∀ (k : Nat) (l : Lc) (b : Addr) (xs : List PD), outs[k]? = some l → (b, xs) ∈ l.fp → (F' b = none ∧ (H b = none ∨ (k, b) ∈ nio) ∧ ∃ vs, H' b = some (.lst vs) ∧ DfA K F' vs xs) ∧ (∀ k', k' < n → ios[k']? ≠ some b) ∧ ∀ (k' : Nat) (m : Lc) (ys : List PD), outs[k']? = some m → (b, ys) ∈ m.fp → k' = k
  rs : match r with
    | .d x => Df K F' v x
    | .sc xs => ScOk K F' xs v
    | l => ∃ a o, v = .ref a ∧ H a = none ∧ F' a = none ∧ H' a = some o ∧ HoOk K F' l o ∧ l.tag = none
  rn : ∀ (b : Addr) (xs : List PD), (b, xs) ∈ r.fp → (F' b = none ∧ H b = none ∧ ∃ vs, H' b = some (.lst vs) ∧ DfA K F' vs xs) ∧ v ≠ .ref b ∧ ∀ (k : Nat) (m : Lc) (ys : List PD), outs[k]? = some m → (b, ys) ∉ m.fp
  ra : ∀ a, r.own = true → v = .ref a → ∀ (k : Nat) (m : Lc) (ys : List PD), outs[k]? = some m → (a, ys) ∉ m.fp
def liftC (K : PySem.W.Frag) (S : FSpec) : Sp := fun vs H Q _ => ∃ args F ios n Qd, Same F H ∧ ArgsOk K F H ios args vs ∧ IoOk H ios n args ∧
  S.sp args Qd ∧ ∀ r outs v F' H', Qd r outs → Post K F H ios n (nioOf args) r outs v F' H' → Q v H'
theorem ArgsOk.length {ios : List Addr} {ls : List Lc} {vs : List V} (h : ArgsOk K F H ios ls vs) : ls.length = vs.length := by
  induction h with
  | nil => rfl
  | cons _ _ ih => rw [List.length_cons, List.length_cons, ih]
def argsAt (ρ : En) : List AV → Nat → Option (List Lc × List Nat)
  | [], _ => some ([], [])
  | .v x :: r, k => (argsAt ρ r k).map fun p => (.d x :: p.1, p.2)
  | .s i :: r, k => match ρ[i]? with
    | some (some (.d x)) => (argsAt ρ r k).map fun p => (.d x :: p.1, p.2)
    | some (some (.sc xs)) => (argsAt ρ r k).map fun p => (.sc xs :: p.1, p.2)
    | some (some l) => (argsAt ρ r (k + 1)).map fun p => (l.retag (some k) :: p.1, i :: p.2)
    | _ => none
  | .f _ _ _ :: _, _ => none
def nodupB : List Nat → Bool
  | [] => true
  | i :: r => !r.contains i && nodupB r
theorem nodup_of {is : List Nat} (h : nodupB is = true) : is.Nodup := by
  induction is with
  | nil => exact List.nodup_nil
  | cons i r ih =>
    unfold nodupB at h
    rw [Bool.and_eq_true] at h
    exact List.nodup_cons.mpr ⟨by simpa using h.1, ih h.2⟩
def tagAt (ρ : En) (i : Nat) : Option Nat := match ρ[i]? with
  | some (some l) => l.tag
  | _ => none
def putO (ρ0 : En) : En → List Nat → List Lc → En
  | ρ, i :: is, l :: ls => putO ρ0 (ρ.set i (some (l.retag (tagAt ρ0 i)))) is ls
  | ρ, _, _ => ρ
def putF (ρ0 : En) : En → List Nat → List Lc → (En → Prop) → Prop
  | ρ, i :: is, l :: ls, k => match tagAt ρ0 i with
    | none => force (ρ.set i (some (l.retag none))) fun ρ' => putF ρ0 ρ' is ls k
    | some j => force (ρ.set i (some (l.retag (some j)))) fun ρ' => putF ρ0 ρ' is ls k
  | ρ, _, _, k => k ρ
theorem putF_eq {ρ0 : En} : ∀ (is : List Nat) (ls : List Lc) (ρ : En) (k : En → Prop), putF ρ0 ρ is ls k = k (putO ρ0 ρ is ls)
  | [], ls, ρ, k => by cases ls <;> rfl
  | i :: is, [], ρ, k => rfl
  | i :: is, l :: ls, ρ, k => by
    unfold putF putO
    cases tagAt ρ0 i with
    | none => dsimp only; rw [force_eq, putF_eq is ls]
    | some j => dsimp only; rw [force_eq, putF_eq is ls]
def fCall (S : FSpec) (t : TAd) : TF := fun ρ Q => t ρ fun as ρ1 => match argsAt ρ1 as 0 with
  | some (args, is) => nodupB is = true ∧ S.sp args fun r outs => putF ρ1 ρ1 is outs fun ρ2 => Q r ρ2
  | none => False
theorem putO_length {ρ0 : En} {is : List Nat} {ls : List Lc} : (putO ρ0 ρ is ls).length = ρ.length := by
  induction is generalizing ρ ls with
  | nil => cases ls <;> rfl
  | cons i is ih =>
    cases ls with
    | nil => rfl
    | cons l ls => show (putO ρ0 (ρ.set i _) is ls).length = _; rw [ih, List.length_set]
theorem putO_get {ρ0 : En} {is : List Nat} {ls : List Lc} {j : Nat} {l : Lc} (hn : is.Nodup) (hl : ls.length = is.length) (h : (putO ρ0 ρ is ls)[j]? = some (some l)) :
    (j ∉ is ∧ ρ[j]? = some (some l)) ∨ ∃ (k : Nat) (m : Lc), is[k]? = some j ∧ ls[k]? = some m ∧ l = m.retag (tagAt ρ0 j) := by
  induction is generalizing ρ ls with
  | nil => cases ls <;> exact .inl ⟨by simp, h⟩
  | cons i is ih =>
    cases ls with
    | nil => simp at hl
    | cons m ls =>
      have h : (putO ρ0 (ρ.set i (some (m.retag (tagAt ρ0 i)))) is ls)[j]? = some (some l) := h
      rw [List.nodup_cons] at hn
      rcases ih hn.2 (by simpa using hl) h with ⟨h1, h2⟩ | ⟨k, m', h1, h2, h3⟩
      · rcases set_get h2 with ⟨rfl, _, z⟩ | ⟨hne, h2⟩
        · cases z; exact .inr ⟨0, m, rfl, rfl, rfl⟩
        · exact .inl ⟨by simp only [List.mem_cons, not_or]; exact ⟨hne, h1⟩, h2⟩
      · exact .inr ⟨k + 1, m', by simpa using h1, by simpa using h2, h3⟩
theorem argsAt_ok [Pn] (R : Rel K G ρ F σ H) : ∀ {as : List AV} {vs : List V} {k : Nat} {args : List Lc} {is : List Nat}, AvA K F σ as vs → argsAt ρ as k = some (args, is) → ∀ pre : List Addr, pre.length = k →
    ∃ post : List Addr, post.length = is.length ∧ (∀ (j i : Nat), is[j]? = some i → ∃ a l, post[j]? = some a ∧ σ[i]? = some (some (.ref a)) ∧ ρ[i]? = some (some l) ∧ l.own = true) ∧
      ArgsOk K F H (pre ++ post) args vs ∧ tags args = List.range' k is.length
  | _, _, k, args, is, .nil, e, pre, hp => by
    have e : some (([] : List Lc), ([] : List Nat)) = some (args, is) := e
    cases e
    exact ⟨[], rfl, fun j i z => by simp at z, .nil, rfl⟩
  | .v x :: r, v :: vs, k, args, is, .cons a t, e, pre, hp => by
    have e : (argsAt ρ r k).map (fun p => (Lc.d x :: p.1, p.2)) = some (args, is) := e
    cases q : argsAt ρ r k with
    | none => rw [q] at e; cases e
    | some p =>
      obtain ⟨as', is'⟩ := p
      rw [q] at e; cases e
      obtain ⟨post, h1, h2, h3, h4⟩ := argsAt_ok R t q pre hp
      exact ⟨post, h1, h2, .cons a h3, h4⟩
  | .f _ _ _ :: r, v :: vs, k, args, is, .cons a t, e, pre, hp => by
    have e : (none : Option (List Lc × List Nat)) = some (args, is) := e
    cases e
  | .s i :: r, v :: vs, k, args, is, .cons a t, e, pre, hp => by
    have a : σ[i]? = some (some v) := a
    unfold argsAt at e
    split at e
    · rename_i x er
      cases q : argsAt ρ r k with
      | none => rw [q] at e; cases e
      | some p =>
        obtain ⟨as', is'⟩ := p
        rw [q] at e; cases e
        obtain ⟨post, h1, h2, h3, h4⟩ := argsAt_ok R t q pre hp
        obtain ⟨w, ew, d⟩ := R.sl i _ er
        rw [a] at ew
        have : v = w := by simpa using ew
        subst this
        exact ⟨post, h1, h2, .cons d h3, h4⟩
    · rename_i u er
      cases q : argsAt ρ r k with
      | none => rw [q] at e; cases e
      | some p =>
        obtain ⟨as', is'⟩ := p
        rw [q] at e; cases e
        obtain ⟨post, h1, h2, h3, h4⟩ := argsAt_ok R t q pre hp
        obtain ⟨w, ew, d⟩ := R.sl i _ er
        rw [a] at ew
        have : v = w := by simpa using ew
        subst this
        exact ⟨post, h1, h2, .cons d h3, h4⟩
    · rename_i l n1 n2 er
      have ho : l.own = true := by
        cases l with
        | d x => exact absurd rfl (n1 x)
        | sc u => exact absurd rfl (n2 u)
        | _ => rfl
      obtain ⟨b, es, at_⟩ := R.at_ er ho
      cases q : argsAt ρ r (k + 1) with
      | none => rw [q] at e; cases e
      | some p =>
        obtain ⟨as', is'⟩ := p
        rw [q] at e; cases e
        obtain ⟨post, h1, h2, h3, h4⟩ := argsAt_ok R t q (pre ++ [b]) (by rw [List.length_append, hp]; rfl)
        rw [a] at es
        have ev : v = .ref b := by simpa using es
        have z : ∃ a' k', v = .ref a' ∧ (l.retag (some k)).tag = some k' ∧ (pre ++ b :: post)[k']? = some a' ∧ F a' = none ∧ (∃ o, H a' = some o ∧ HoOk K F (l.retag (some k)) o) ∧ ∀ c xs, (c, xs) ∈ (l.retag (some k)).fp → F c = none ∧ ∃ vs, H c = some (.lst vs) ∧ DfA K F vs xs := by
          obtain ⟨o, eo, ok⟩ := at_.ob
          refine ⟨b, k, ev, Lc.retag_tag _ _ ho, by rw [← hp]; simp, at_.nf, ⟨o, eo, ok.retag _⟩, fun c xs hc => ?_⟩
          rw [Lc.retag_fp] at hc
          have := (R.ns _ _ _ _ er hc).1
          exact ⟨this.nf, this.ob⟩
        refine ⟨b :: post, by rw [List.length_cons, List.length_cons, h1], fun j i' e' => ?_, .cons ?_ (by rw [List.append_assoc] at h3; exact h3), ?_⟩
        · cases j with
          | zero => simp at e'; subst e'; exact ⟨b, l, rfl, by rw [a, ev], er, ho⟩
          | succ j => obtain ⟨a', l', q1, q2⟩ := h2 j i' (by simpa using e'); exact ⟨a', l', by simpa using q1, q2⟩
        · cases l <;> first | (simp [Lc.own] at ho; done) | exact z
        · show List.filterMap Lc.tag (l.retag (some k) :: as') = _
          rw [List.filterMap_cons, Lc.retag_tag _ _ ho]
          show k :: tags as' = _
          rw [h4]; rfl
    · cases e
theorem nodup_post [Pn] (R : Rel K G ρ F σ H) {is : List Nat} {post : List Addr} (hl : post.length = is.length) (h : ∀ (j i : Nat), is[j]? = some i → ∃ a l, post[j]? = some a ∧ σ[i]? = some (some (.ref a)) ∧ ρ[i]? = some (some l) ∧ l.own = true) (hn : is.Nodup) : post.Nodup := by
  rw [List.nodup_iff_pairwise_ne, List.pairwise_iff_getElem]
  intro i j hi hj hij e
  have hi' : i < is.length := by omega
  have hj' : j < is.length := by omega
  obtain ⟨a, l, q1, q2, q3, q4⟩ := h i is[i] (List.getElem?_eq_getElem hi')
  obtain ⟨b, m, p1, p2, p3, p4⟩ := h j is[j] (List.getElem?_eq_getElem hj')
  rw [List.getElem?_eq_getElem hi] at q1
  rw [List.getElem?_eq_getElem hj] at p1
  have e1 : a = b := by
    have q1 : post[i] = a := by simpa using q1
    have p1 : post[j] = b := by simpa using p1
    rw [← q1, ← p1, e]
  subst e1
  have := R.ds _ _ l m _ q3 p3 q4 p4 q2 p2
  rw [List.nodup_iff_pairwise_ne, List.pairwise_iff_getElem] at hn
  exact hn i j hi' hj' hij this
theorem tags_inj : ∀ {args : List Lc} {i j : Nat} {l m : Lc} {k : Nat}, (tags args).Nodup → args[i]? = some l → args[j]? = some m → l.tag = some k → m.tag = some k → i = j
  | [], i, j, l, m, k, _, e1, _, _, _ => by simp at e1
  | a :: r, i, j, l, m, k, hn, e1, e2, t1, t2 => by
    have mem : ∀ {i : Nat} {l : Lc}, r[i]? = some l → l.tag = some k → k ∈ tags r := fun e t => List.mem_filterMap.mpr ⟨_, List.mem_of_getElem? e, t⟩
    unfold tags at hn
    rw [List.filterMap_cons] at hn
    cases i with
    | zero =>
      simp at e1; subst e1
      rw [t1] at hn
      cases j with
      | zero => rfl
      | succ j => exact absurd (mem (by simpa using e2) t2) (List.nodup_cons.mp hn).1
    | succ i =>
      cases j with
      | zero =>
        simp at e2; subst e2
        rw [t2] at hn
        exact absurd (mem (by simpa using e1) t1) (List.nodup_cons.mp hn).1
      | succ j =>
        have hn' : (tags r).Nodup := by
          cases q : a.tag with
          | none => rw [q] at hn; exact hn
          | some k' => rw [q] at hn; exact (List.nodup_cons.mp hn).2
        exact congrArg (· + 1) (tags_inj hn' (by simpa using e1) (by simpa using e2) t1 t2)
theorem ArgOk.more {ios rest : List Addr} {l : Lc} (h : ArgOk K F H ios l v) : ArgOk K F H (ios ++ rest) l v := by
  cases l <;> first | exact h | (obtain ⟨a, k, e1, e2, e3, e4⟩ := h; exact ⟨a, k, e1, e2, by rw [List.getElem?_append_left (List.getElem?_eq_some_iff.mp e3).1]; exact e3, e4⟩)
theorem ArgsOk.more {ios rest : List Addr} : ∀ {ls : List Lc} {vs : List V}, ArgsOk K F H ios ls vs → ArgsOk K F H (ios ++ rest) ls vs
  | _, _, .nil => .nil
  | _, _, .cons a t => .cons a.more t.more
theorem dedup (l : List Nat) : ∃ r : List Nat, r.Nodup ∧ ∀ x, x ∈ r ↔ x ∈ l := by
  induction l with
  | nil => exact ⟨[], List.nodup_nil, fun _ => Iff.rfl⟩
  | cons a l ih =>
    obtain ⟨r, h1, h2⟩ := ih
    by_cases z : a ∈ r
    · exact ⟨r, h1, fun x => by rw [h2, List.mem_cons]; exact ⟨.inr, fun w => w.elim (fun e => by rw [e]; exact (h2 a).mp z) id⟩⟩
    · exact ⟨a :: r, List.nodup_cons.mpr ⟨z, h1⟩, fun x => by rw [List.mem_cons, List.mem_cons, h2]⟩
theorem argsAt_nio [Pn] (R : Rel K G ρ F σ H) : ∀ {as : List AV} {k : Nat} {args : List Lc} {is : List Nat}, argsAt ρ as k = some (args, is) → ∀ {n : Nat} {l : Lc}, args[n]? = some l → l.fp ≠ [] → ∃ (j i : Nat) (l0 : Lc), is[j]? = some i ∧ ρ[i]? = some (some l0) ∧ l0.own = true ∧ l = l0.retag (some (k + j)) ∧ l.tag = some (k + j)
  | [], k, args, is, e, n, l, en, _ => by
    have e : some (([] : List Lc), ([] : List Nat)) = some (args, is) := e
    cases e; simp at en
  | .v x :: r, k, args, is, e, n, l, en, hl => by
    have e : (argsAt ρ r k).map (fun p => (Lc.d x :: p.1, p.2)) = some (args, is) := e
    cases q : argsAt ρ r k with
    | none => rw [q] at e; cases e
    | some p =>
      obtain ⟨as', is'⟩ := p
      rw [q] at e; cases e
      cases n with
      | zero => simp at en; subst en; exact absurd rfl hl
      | succ n => exact argsAt_nio R q (by simpa using en) hl
  | .f _ _ _ :: r, k, args, is, e, n, l, en, hl => by
    have e : (none : Option (List Lc × List Nat)) = some (args, is) := e
    cases e
  | .s i :: r, k, args, is, e, n, l, en, hl => by
    unfold argsAt at e
    split at e
    · cases q : argsAt ρ r k with
      | none => rw [q] at e; cases e
      | some p =>
        obtain ⟨as', is'⟩ := p
        rw [q] at e; cases e
        cases n with
        | zero => simp at en; subst en; exact absurd rfl hl
        | succ n => exact argsAt_nio R q (by simpa using en) hl
    · cases q : argsAt ρ r k with
      | none => rw [q] at e; cases e
      | some p =>
        obtain ⟨as', is'⟩ := p
        rw [q] at e; cases e
        cases n with
        | zero => simp at en; subst en; exact absurd rfl hl
        | succ n => exact argsAt_nio R q (by simpa using en) hl
    · rename_i l1 n1 n2 er
      have ho : l1.own = true := by
        cases l1 with
        | d x => exact absurd rfl (n1 x)
        | sc u => exact absurd rfl (n2 u)
        | _ => rfl
      cases q : argsAt ρ r (k + 1) with
      | none => rw [q] at e; cases e
      | some p =>
        obtain ⟨as', is'⟩ := p
        rw [q] at e; cases e
        cases n with
        | zero => simp at en; subst en; exact ⟨0, i, l1, rfl, er, ho, rfl, Lc.retag_tag _ _ ho⟩
        | succ n =>
          obtain ⟨j, i', l0, g1, g2, g3, g4, g5⟩ := argsAt_nio R q (by simpa using en) hl
          exact ⟨j + 1, i', l0, by simpa using g1, g2, g3, by rw [g4]; congr 2; omega, by rw [g5]; congr 1; omega⟩
    · cases e
theorem argsAt_src [Pn] (R : Rel K G ρ F σ H) {as : List AV} {args : List Lc} {is : List Nat} (e : argsAt ρ as 0 = some (args, is)) {k : Nat} {b : Addr} (h : (k, b) ∈ nioOf args) : ∃ (i : Nat) (l0 : Lc) (xs : List PD), is[k]? = some i ∧ ρ[i]? = some (some l0) ∧ l0.own = true ∧ (b, xs) ∈ l0.fp := by
  obtain ⟨n, l, xs, e1, e2, e3⟩ := nioOf_mem h
  obtain ⟨j, i, l0, g1, g2, g3, g4, g5⟩ := argsAt_nio R e e1 (by intro z; rw [z] at e3; cases e3)
  rw [e2] at g5
  have : k = 0 + j := Option.some.inj g5
  have : k = j := by omega
  subst this
  exact ⟨i, l0, xs, g1, g2, g3, by rw [g4, Lc.retag_fp] at e3; exact e3⟩
theorem Rel.call [Pn] (R : Rel K G ρ F σ H) {is : List Nat} {post ios : List Addr} {nio : List (Nat × Addr)} {r : Lc} {outs : List Lc} (hl : post.length = is.length) (hn : is.Nodup)
    (h : ∀ (j i : Nat), is[j]? = some i → ∃ a l, post[j]? = some a ∧ σ[i]? = some (some (.ref a)) ∧ ρ[i]? = some (some l) ∧ l.own = true)
    (hpre : ∃ rest, ios = post ++ rest ∧ ∀ b ∈ rest, ∃ k, (k, b) ∈ nio) (hnio : ∀ k b, (k, b) ∈ nio → ∃ (i : Nat) (l0 : Lc) (xs : List PD), is[k]? = some i ∧ ρ[i]? = some (some l0) ∧ l0.own = true ∧ (b, xs) ∈ l0.fp) (P0 : Post K F H ios is.length nio r outs v F' H') :
    Rel K G (putO ρ ρ is outs) F' σ H' ∧ RsOk K G F' H' (putO ρ ρ is outs) σ r v := by
  obtain ⟨rest, eios, hrest⟩ := hpre
  have P := P0
  have hlo : outs.length = is.length := P.ol
  -- an own list within, behind the call
  have inr : ∀ {b : Addr}, b ∈ rest → ∃ (i k : Nat) (l0 : Lc) (xs : List PD), is[k]? = some i ∧ ρ[i]? = some (some l0) ∧ l0.own = true ∧ (b, xs) ∈ l0.fp := fun {b} hb => by
    obtain ⟨k, hk⟩ := hrest b hb
    obtain ⟨i, l0, xs, z⟩ := hnio k b hk
    exact ⟨i, k, l0, xs, z⟩
  -- a slot behind the call
  have slot : ∀ {j : Nat} {l : Lc}, (putO ρ ρ is outs)[j]? = some (some l) → (j ∉ is ∧ ρ[j]? = some (some l)) ∨
      ∃ (k : Nat) (m l0 : Lc) (a : Addr) (o : HO), is[k]? = some j ∧ l = m.retag l0.tag ∧ ρ[j]? = some (some l0) ∧ l0.own = true ∧ σ[j]? = some (some (.ref a)) ∧ post[k]? = some a ∧ F' a = none ∧ H' a = some o ∧ HoOk K F' m o ∧ outs[k]? = some m := fun {j l} e => by
    rcases putO_get hn hlo e with q | ⟨k, m, q1, q2, q3⟩
    · exact .inl q
    · obtain ⟨a, l0, p1, p2, p3, p4⟩ := h k j q1
      obtain ⟨a', o, z1, z2, z3, z4, z5⟩ := P.ou k m q2
      rw [eios, List.getElem?_append_left (by have := (List.getElem?_eq_some_iff.mp p1).1; exact this), p1] at z1
      have : a = a' := by simpa using z1
      subst this
      have et : tagAt ρ j = l0.tag := by unfold tagAt; rw [p3]
      rw [et] at q3
      exact .inr ⟨k, m, l0, a, o, q1, q3, p3, p4, p2, p1, z2, z3, z4, q2⟩
  have old : ∀ {j : Nat} {l : Lc}, (putO ρ ρ is outs)[j]? = some (some l) → l.own = true → ∃ l0, ρ[j]? = some (some l0) ∧ l0.own = true := fun {j l} e ho => by
    rcases slot e with ⟨_, q⟩ | ⟨k, m, l0, a, o, _, _, q, q2, _⟩
    · exact ⟨l, q, ho⟩
    · exact ⟨l0, q, q2⟩
  have keep : ∀ {j : Nat} {l : Lc} {b : Addr}, j ∉ is → ρ[j]? = some (some l) → l.own = true → σ[j]? = some (some (.ref b)) → b ∉ post := fun {j l b} hj e ho es hb => by
    obtain ⟨k, hk, ek⟩ := List.getElem_of_mem hb
    obtain ⟨a, l', p1, p2, p3, p4⟩ := h k is[k] (List.getElem?_eq_getElem (by omega))
    rw [List.getElem?_eq_getElem hk, ek] at p1
    have : b = a := by simpa using p1
    subst this
    have := R.ds j is[k] l l' _ e p3 ho p4 es p2
    exact hj (by rw [this]; exact List.getElem_mem _)
  have keep2 : ∀ {j : Nat} {l : Lc} {b : Addr}, j ∉ is → ρ[j]? = some (some l) → l.own = true → σ[j]? = some (some (.ref b)) → b ∉ ios := fun {j l b} hj e ho es hb => by
    rw [eios] at hb
    rcases List.mem_append.mp hb with hb | hb
    · exact keep hj e ho es hb
    · obtain ⟨i, k, l0, xs, _, g2, _, g4⟩ := inr hb
      exact ((R.ns i l0 b xs g2 g4).2 j l e).1 ho es
  have ioA : ∀ {a : Addr}, a ∈ post → ∃ (l : Lc) (j : Nat), ρ[j]? = some (some l) ∧ l.own = true ∧ σ[j]? = some (some (.ref a)) ∧ At K G F H l a := fun {a} ha => by
    obtain ⟨k, hk, ek⟩ := List.getElem_of_mem ha
    obtain ⟨b, l', p1, p2, p3, p4⟩ := h k is[k] (List.getElem?_eq_getElem (by omega))
    rw [List.getElem?_eq_getElem hk, ek] at p1
    have : a = b := by simpa using p1
    subst this
    obtain ⟨c, es, z⟩ := R.at_ p3 p4
    rw [p2] at es
    have : a = c := by simpa using es
    subst this
    exact ⟨l', is[k], p3, p4, p2, z⟩
  have R' : Rel K G (putO ρ ρ is outs) F' σ H' := by
    refine ⟨P.fh, R.ff.trans P.ff, fun b o e hb => ?_, fun b h1 h2 => ?_, fun a ha => ⟨?_, (R.ih a ha).2⟩, by rw [putO_length]; exact R.len, fun j l e => ?_, fun i j l m w e1 e2 h1 h2 e3 e4 => ?_, R.ok, fun i l b xs e hb => ?_⟩
    · refine P.fr b o (R.fr b o e hb) fun hm => ?_
      rw [eios] at hm
      rcases List.mem_append.mp hm with hm | hm
      · obtain ⟨l, j, _, _, _, z⟩ := ioA hm
        have ow := z.ow
        cases q : l.tag with
        | none => rw [q] at ow; have ow : G.H0 b = none := ow; rw [e] at ow; cases ow
        | some k => rw [q] at ow; exact hb (List.mem_of_getElem? ow)
      · obtain ⟨i, k, l0, xs, _, g2, _, g4⟩ := inr hm
        rcases (R.ns i l0 b xs g2 g4).1.ow with w | w
        · rw [e] at w; cases w
        · obtain ⟨_, _, _, w⟩ := w; exact hb w
    · cases e : F b with
      | none =>
        rcases P.nw b h1 e with z | z
        · exact .inl (R.h0 z)
        · exact .inr z
      | some u =>
        rcases R.nw b (by rw [e]; simp) h2 with z | ⟨us, z⟩
        · exact .inl z
        · exact .inr ⟨us, P.ff _ _ z⟩
    · by_cases hm : a ∈ ios
      · exact P.hx a hm
      · cases e : H a with
        | none => exact absurd e (R.ih a ha).1
        | some u => rw [P.fr a u e hm]; simp
    · rcases slot e with ⟨hj, q⟩ | ⟨k, m, l0, a, o, q1, rfl, q3, q4, q5, q6, q7, q8, q9, _⟩
      · have z := R.sl j l q
        cases hl0 : l.own with
        | true =>
          rw [own_slot hl0] at z ⊢
          obtain ⟨b, eb, z⟩ := z
          obtain ⟨nf, ow, ob, eo, ok⟩ := z
          refine ⟨b, eb, ?_, ow, ob, P.fr b ob eo (keep2 hj q hl0 eb), ok.mono P.ff⟩
          cases w : F' b with
          | none => rfl
          | some u =>
            rcases P.nw b (by rw [w]; simp) nf with this | ⟨us, this⟩
            · rw [eo] at this; cases this
            · have this := P.fh _ _ this
              rw [P.fr b ob eo (keep2 hj q hl0 eb)] at this
              cases this
              cases l <;> exact False.elim ok
        | false =>
          rcases not_own hl0 with ⟨x, rfl⟩ | ⟨w, rfl⟩
          · obtain ⟨w, ew, d⟩ := z; exact ⟨w, ew, d.mono P.ff⟩
          · obtain ⟨w, ew, d⟩ := z; exact ⟨w, ew, d.mono P.ff⟩
      · rw [own_slot (by rw [Lc.retag_own]; exact q9.own)]
        obtain ⟨b, eb, z⟩ := R.at_ q3 q4
        rw [q5] at eb
        have : a = b := by simpa using eb
        subst this
        exact ⟨a, q5, q7, by rw [Lc.retag_tag _ _ q9.own]; exact z.ow, o, q8, q9.retag _⟩
    · obtain ⟨l0, p1, p2⟩ := old e1 h1
      obtain ⟨m0, p3, p4⟩ := old e2 h2
      exact R.ds i j l0 m0 w p1 p3 p2 p4 e3 e4
    · have own1 : ∀ {j : Nat} {m : Lc}, (putO ρ ρ is outs)[j]? = some (some m) → m.own = true → ∃ l0, ρ[j]? = some (some l0) ∧ l0.own = true := old
      rcases slot e with ⟨hi, q⟩ | ⟨k, m, l0, a, o, q1, rfl, q3, q4, q5, q6, q7, q8, q9, q10⟩
      · obtain ⟨⟨z1, z2, vs, z3, z4⟩, w⟩ := R.ns i l b xs q hb
        have nb : b ∉ ios := fun hm => by
          rw [eios] at hm
          rcases List.mem_append.mp hm with hm | hm
          · obtain ⟨l2, j2, g1, g2, g3, _⟩ := ioA hm
            exact (w j2 l2 g1).1 g2 g3
          · obtain ⟨i2, k2, l2, xs2, g1, g2, g3, g4⟩ := inr hm
            have := (w i2 l2 g2).2 xs2 g4
            exact hi (by rw [← this]; exact List.mem_of_getElem? g1)
        have hb' := P.fr b _ z3 nb
        refine ⟨⟨?_, z2, vs, hb', z4.mono P.ff⟩, fun j m2 e2 => ?_⟩
        · cases w2 : F' b with
          | none => rfl
          | some u =>
            rcases P.nw b (by rw [w2]; simp) z1 with this | ⟨us, this⟩
            · rw [z3] at this; cases this
            · have this := P.fh _ _ this
              rw [hb'] at this; cases this
        · rcases slot e2 with ⟨_, q2⟩ | ⟨k2, m2, l2, a2, o2, p1, rfl, p3, p4, p5, p6, p7, p8, p9, p10⟩
          · exact w j m2 q2
          · refine ⟨fun _ => (w j l2 p3).1 p4, fun ys hy => ?_⟩
            rw [Lc.retag_fp] at hy
            rcases (P.on k2 m2 b ys p10 hy).1.2.1 with g | g
            · rw [z3] at g; cases g
            · obtain ⟨i3, l3, xs3, g1, g2, _, g4⟩ := hnio _ _ g
              rw [p1] at g1
              have : j = i3 := by simpa using g1
              subst this
              exact (w j l3 g2).2 xs3 g4
      · rw [Lc.retag_fp] at hb
        obtain ⟨⟨f1, f2, f3⟩, f5, f6⟩ := P.on k m b xs q10 hb
        have src : H b = none ∨ ∃ xs3, (b, xs3) ∈ l0.fp := by
          rcases f2 with f2 | f2
          · exact .inl f2
          · obtain ⟨i3, l3, xs3, g1, g2, _, g4⟩ := hnio _ _ f2
            rw [q1] at g1
            have : i = i3 := by simpa using g1
            subst this
            rw [q3] at g2
            have : l0 = l3 := by simpa using g2
            subst this
            exact .inr ⟨xs3, g4⟩
        refine ⟨⟨f1, ?_, f3⟩, fun j m2 e2 => ?_⟩
        · rw [Lc.retag_tag _ _ q9.own]
          rcases src with g | ⟨xs3, g⟩
          · exact .inl (R.h0 g)
          · exact (R.ns i l0 b xs3 q3 g).1.ow
        · rcases slot e2 with ⟨_, q2⟩ | ⟨k2, m2, l2, a2, o2, p1, rfl, p3, p4, p5, p6, p7, p8, p9, p10⟩
          · rcases src with g | ⟨xs3, g⟩
            · exact ⟨R.noS_free g j m2 q2, fun ys hy => absurd hy (R.noN_free g j m2 ys q2)⟩
            · exact (R.ns i l0 b xs3 q3 g).2 j m2 q2
          · refine ⟨fun _ z => ?_, fun ys hy => ?_⟩
            · rw [p5] at z
              have : a2 = b := by simpa using z
              have hk2 := (List.getElem?_eq_some_iff.mp p6).1
              refine f5 k2 (by omega) ?_
              rw [eios, List.getElem?_append_left hk2, p6, this]
            · rw [Lc.retag_fp] at hy
              have := f6 k2 m2 ys p10 hy
              subst this
              rw [q1] at p1
              simpa using p1.symm
  refine ⟨R', ?_⟩
  have own : r.own = true → RsOk K G F' H' (putO ρ ρ is outs) σ r v := fun ho => by
    have z : ∃ a o, v = .ref a ∧ H a = none ∧ F' a = none ∧ H' a = some o ∧ HoOk K F' r o ∧ r.tag = none := by
      have := P.rs
      cases r <;> first | (simp [Lc.own] at ho; done) | exact this
    obtain ⟨a, o, e1, e2, e3, e4, e5, e6⟩ := z
    rw [RsOk.ref_own ho]
    have nos : ∀ {b : Addr}, H b = none → NoS (putO ρ ρ is outs) σ b := fun {b} g j m e hm => by
      obtain ⟨l0, p1, p2⟩ := old e hm
      exact R.noS_free g j l0 p1 p2
    have non : ∀ {b : Addr}, H b = none → (∀ (k : Nat) (m : Lc) (ys : List PD), outs[k]? = some m → (b, ys) ∉ m.fp) → NoN (putO ρ ρ is outs) b := fun {b} g g2 j m ys e hy => by
      rcases slot e with ⟨_, q⟩ | ⟨k, m, l0, a, o, q1, rfl, q3, q4, q5, q6, q7, q8, q9, q10⟩
      · exact R.noN_free g j m ys q hy
      · rw [Lc.retag_fp] at hy
        exact g2 k m ys q10 hy
    refine ⟨a, e1, e6, ⟨e3, by rw [e6]; exact R.h0 e2, o, e4, e5⟩, ⟨nos e2, non e2 (P.ra a ho e1), fun b xs hb => ?_⟩⟩
    obtain ⟨⟨f1, f2, f3⟩, f4, f5⟩ := P.rn b xs hb
    exact ⟨⟨f1, .inl (R.h0 f2), f3⟩, by rw [← e1]; exact f4, nos f2, non f2 f5⟩
  cases r with
  | d x => exact P.rs
  | sc u => exact P.rs
  | _ => exact own rfl
variable {k : Nat} {f : Addr} {fd : FuncData} {ps : List Str} {n : Str} {p : Pos} {tt : TAd} {S : FSpec}
theorem callIo [Pn] {ρ1 : En} {F1 H1 : Hp} {as : List AV} {vs : List V} {args : List Lc} {is : List Nat} (R1 : Rel K G ρ1 F1 σ H1) (av : AvA K F1 σ as vs) (ea : argsAt ρ1 as 0 = some (args, is)) (hn : is.Nodup) :
    ∃ ios, ArgsOk K F1 H1 ios args vs ∧ IoOk H1 ios is.length args ∧ ∀ {r : Lc} {outs : List Lc} {v : V} {F' H' : Hp}, Post K F1 H1 ios is.length (nioOf args) r outs v F' H' → Rel K G (putO ρ1 ρ1 is outs) F' σ H' ∧ RsOk K G F' H' (putO ρ1 ρ1 is outs) σ r v := by
  obtain ⟨post, p1, p2, p3, p4⟩ := argsAt_ok R1 av ea [] rfl
  obtain ⟨rest, rn, rm⟩ := dedup ((nioOf args).map (·.2))
  have rk : ∀ b, b ∈ rest → ∃ k, (k, b) ∈ nioOf args := fun b hb => by
    obtain ⟨q, hq, e⟩ := List.mem_map.mp ((rm b).mp hb)
    exact ⟨q.1, by rw [← e]; exact hq⟩
  have src := fun (k : Nat) (b : Addr) (z : (k, b) ∈ nioOf args) => argsAt_src R1 ea z
  have pa : ∀ a ∈ post, ∃ (j : Nat) (l : Lc), ρ1[j]? = some (some l) ∧ l.own = true ∧ σ[j]? = some (some (.ref a)) := fun a ha => by
    obtain ⟨j, hj, ej⟩ := List.getElem_of_mem ha
    obtain ⟨b, l, z1, z2, z3, z4⟩ := p2 j is[j] (List.getElem?_eq_getElem (by omega))
    rw [List.getElem?_eq_getElem hj, ej] at z1
    have : a = b := by simpa using z1
    subst this
    exact ⟨_, l, z3, z4, z2⟩
  have io : IoOk H1 (post ++ rest) is.length args := by
    refine ⟨List.nodup_append.mpr ⟨nodup_post R1 p1 p2 hn, rn, fun a ha b hb e => ?_⟩, fun a ha => ?_, by rw [p4, List.range_eq_range'], by rw [List.length_append]; omega, fun k b hb => ?_, fun i j l m b xs ys e1 e2 h1 h2 => ?_⟩
    · subst e
      obtain ⟨j, l, g1, g2, g3⟩ := pa a ha
      obtain ⟨k, hk⟩ := rk a hb
      obtain ⟨i, l0, xs, _, q2, _, q4⟩ := src k a hk
      exact ((R1.ns i l0 a xs q2 q4).2 j l g1).1 g2 g3
    · rcases List.mem_append.mp ha with ha | ha
      · obtain ⟨j, l, g1, g2, g3⟩ := pa a ha
        obtain ⟨b, eb, _, _, ob, eo, _⟩ := R1.at_ g1 g2
        rw [g3] at eb
        have : a = b := by simpa using eb
        subst this
        rw [eo]; simp
      · obtain ⟨k, hk⟩ := rk a ha
        obtain ⟨i, l0, xs, _, q2, _, q4⟩ := src k a hk
        obtain ⟨vs, e, _⟩ := (R1.ns i l0 a xs q2 q4).1.ob
        rw [e]; simp
    · rw [← p1, List.drop_left]
      exact (rm b).mpr (List.mem_map.mpr ⟨(k, b), hb, rfl⟩)
    · obtain ⟨j1, i1, l1, q1, q2, q3, q4, q5⟩ := argsAt_nio R1 ea e1 (by intro z; rw [z] at h1; cases h1)
      obtain ⟨j2, i2, l2, g1, g2, g3, g4, g5⟩ := argsAt_nio R1 ea e2 (by intro z; rw [z] at h2; cases h2)
      have h1' : (b, xs) ∈ l1.fp := by rw [q4, Lc.retag_fp] at h1; exact h1
      have h2' : (b, ys) ∈ l2.fp := by rw [g4, Lc.retag_fp] at h2; exact h2
      have e3 : i2 = i1 := ((R1.ns i1 l1 b xs q2 h1').2 i2 l2 g2).2 ys h2'
      subst e3
      obtain ⟨hj1, ej1⟩ := List.getElem?_eq_some_iff.mp q1
      obtain ⟨hj2, ej2⟩ := List.getElem?_eq_some_iff.mp g1
      have e4 : j1 = j2 := (List.getElem_inj hn).mp (ej1.trans ej2.symm)
      subst e4
      exact tags_inj (by rw [p4]; exact List.nodup_range') e1 e2 q5 g5
  exact ⟨post ++ rest, p3.more, io, fun P => R1.call p1 hn p2 ⟨rest, rfl, rk⟩ src P⟩
theorem tCall_of [Pn] {m : Nat} {Q : VK} (h : liftF K (fCall S tt) σ H Q) : tCall (liftC K S) [] E0 (liftA K m tt) σ H Q := by
  obtain ⟨G, ρ, F, Q', R, q, c⟩ := h
  refine ⟨G, ρ, F, _, R, q, fun as ρ1 vs H1 F1 h1 hl R1 s1 av => ?_⟩
  split at h1
  · rename_i args is ea
    obtain ⟨hn, h1⟩ := h1
    have hn := nodup_of hn
    obtain ⟨ios, p3, io, back⟩ := callIo R1 av ea hn
    rw [List.append_nil]
    refine ⟨args, F1, ios, is.length, _, R1.fh, p3, io, h1, fun r outs v F' H' q' P => ?_⟩
    obtain ⟨R2, r2⟩ := back P
    have q2 := q'
    change putF _ _ _ _ _ at q2
    rw [putF_eq] at q2
    exact c _ _ _ _ _ q2 R2 (s1.trans P.ff) r2
  · exact False.elim h1
def outsAt (ρ : En) : List Nat → Nat → Option (List Lc)
  | [], _ => some []
  | i :: is, k => match ρ[i]? with
    | some (some l) => if (l.own && l.tag == some k) = true then (outsAt ρ is (k + 1)).map (l :: ·) else none
    | _ => none
def ioSlots : List Lc → Nat → List Nat
  | [], _ => []
  | l :: r, i => if l.tag.isSome = true then i :: ioSlots r (i + 1) else ioSlots r (i + 1)
def retOk (args : List Lc) (Q : Lc → List Lc → Prop) (r : Lc) (ρ : En) : Prop := match outsAt ρ (ioSlots args 0) 0 with
  | some outs => (match r with
    | .d x => Q (.d x) outs
    | l => Q l outs ∨ (l.fz = true ∧ Q (.d l.pd) outs))
  | none => False
def endsOf (args : List Lc) (Q : Lc → List Lc → Prop) : DE := { nx := retOk args Q (.d .none), rt := retOk args Q }
def rho0 (N : List Str) (args : List Lc) : En := args.map some ++ List.replicate (N.length - args.length) none
theorem outsAt_ok [Pn] (R : Rel K G ρ F σ H) : ∀ {is : List Nat} {k : Nat} {outs : List Lc}, outsAt ρ is k = some outs → outs.length = is.length ∧ ∀ (j : Nat) (l : Lc), outs[j]? = some l → ∃ a o, G.io[k + j]? = some a ∧ F a = none ∧ H a = some o ∧ HoOk K F l o ∧ l.tag = some (k + j)
  | [], k, outs, e => by
    have e : some ([] : List Lc) = some outs := e
    cases e
    exact ⟨rfl, fun j l z => by simp at z⟩
  | i :: is, k, outs, e => by
    unfold outsAt at e
    split at e
    · rename_i l er
      split at e
      · rename_i hz
        rw [Bool.and_eq_true] at hz
        have ht : l.tag = some k := by simpa using hz.2
        cases q : outsAt ρ is (k + 1) with
        | none => rw [q] at e; cases e
        | some os =>
          rw [q] at e; cases e
          obtain ⟨h1, h2⟩ := outsAt_ok R q
          refine ⟨by rw [List.length_cons, List.length_cons, h1], fun j m em => ?_⟩
          cases j with
          | zero =>
            simp at em; subst em
            obtain ⟨a, es, nf, ow, o, eo, ok⟩ := R.at_ er hz.1
            rw [ht] at ow
            exact ⟨a, o, ow, nf, eo, ok, ht⟩
          | succ j =>
            obtain ⟨a, o, z⟩ := h2 j m (by simpa using em)
            have ek : k + (j + 1) = k + 1 + j := by omega
            rw [ek]; exact ⟨a, o, z⟩
      · cases e
    · cases e
theorem ioSlots_length : ∀ (args : List Lc) (i : Nat), (ioSlots args i).length = (tags args).length
  | [], _ => rfl
  | l :: r, i => by
    unfold ioSlots tags
    rw [List.filterMap_cons]
    cases q : l.tag with
    | none => simp only [Option.isSome, Bool.false_eq_true, if_false]; exact ioSlots_length r (i + 1)
    | some k => simp only [Option.isSome, if_true]; rw [List.length_cons, List.length_cons]; exact congrArg (· + 1) (ioSlots_length r (i + 1))
theorem ArgsOk.get {ios : List Addr} : ∀ {ls : List Lc} {vs : List V}, ArgsOk K F H ios ls vs → ∀ {i : Nat} {l : Lc}, ls[i]? = some l → ∃ v, vs[i]? = some v ∧ ArgOk K F H ios l v
  | _, _, .nil, i, l, e => by simp at e
  | _, _, .cons a t, i, l, e => by
    cases i with
    | zero => simp at e; subst e; exact ⟨_, rfl, a⟩
    | succ i => obtain ⟨v, h1, h2⟩ := ArgsOk.get t (i := i) (by simpa using e); exact ⟨v, by simpa using h1, h2⟩
theorem argOk_own {ios : List Addr} {l : Lc} (ho : l.own = true) : ArgOk K F H ios l v ↔ ∃ a k, v = .ref a ∧ l.tag = some k ∧ ios[k]? = some a ∧ F a = none ∧ (∃ o, H a = some o ∧ HoOk K F l o) ∧ ∀ b xs, (b, xs) ∈ l.fp → F b = none ∧ ∃ vs, H b = some (.lst vs) ∧ DfA K F vs xs := by
  cases l <;> first | exact Iff.rfl | (simp [Lc.own] at ho)
theorem Rel.start [Pn] {N : List Str} {ios : List Addr} {n : Nat} {args : List Lc} {vs : List V} (ok : Pn.P ⟨H, F, ios, nioOf args⟩) (s : Same F H) (a : ArgsOk K F H ios args vs) (io : IoOk H ios n args) : Rel K ⟨H, F, ios, nioOf args⟩ (rho0 N args) F (L2.start N vs) H := by
  have hn := io.nd
  have hH := io.ex
  have ht := io.tg
  have hl := a.length
  have get : ∀ {i : Nat} {l : Lc}, (rho0 N args)[i]? = some (some l) → args[i]? = some l := fun {i l} e => by
    unfold rho0 at e
    by_cases hi : i < args.length
    · rw [List.getElem?_append_left (by simpa using hi), List.getElem?_map] at e
      cases q : args[i]? with
      | none => rw [q] at e; simp at e
      | some m => rw [q] at e; simpa using e
    · rw [List.getElem?_append_right (by simpa using Nat.le_of_not_lt hi)] at e
      have := List.mem_of_getElem? e
      rw [List.mem_replicate] at this
      cases this.2
  have getv : ∀ {i : Nat} {v : V}, vs[i]? = some v → (L2.start N vs)[i]? = some (some v) := fun {i v} e => by
    unfold L2.start
    have hi := (List.getElem?_eq_some_iff.mp e).1
    rw [List.getElem?_append_left (by simpa using hi), List.getElem?_map, e]; rfl
  refine ⟨s, Same.refl _, fun b o e _ => e, fun b h1 h2 => absurd h2 h1, fun a ha => ⟨hH a ha, hH a ha⟩, ?_, fun i l e => ?_, fun i j l m v e1 e2 h1 h2 e3 e4 => ?_, ok, fun i l b xs e hb => ?_⟩
  · unfold L2.start rho0
    simp only [List.length_append, List.length_map, List.length_replicate]; rw [hl]
  · obtain ⟨v, ev, av⟩ := a.get (get e)
    rw [getv ev]
    cases ho : l.own with
    | true =>
      rw [own_slot ho]
      rw [argOk_own ho] at av
      obtain ⟨b, k, e1, e2, e3, e4, ⟨o, e5, e6⟩, _⟩ := av
      exact ⟨b, by rw [e1], e4, by rw [e2]; exact e3, o, e5, e6⟩
    | false =>
      rcases not_own ho with ⟨x, rfl⟩ | ⟨w, rfl⟩
      · exact ⟨v, rfl, av⟩
      · exact ⟨v, rfl, av⟩
  · obtain ⟨v1, ev1, av1⟩ := a.get (get e1)
    obtain ⟨v2, ev2, av2⟩ := a.get (get e2)
    rw [argOk_own h1] at av1
    rw [argOk_own h2] at av2
    obtain ⟨b, k, a1, a2, a3, _⟩ := av1
    obtain ⟨b', k', c1, c2, c3, _⟩ := av2
    rw [getv ev1] at e3
    rw [getv ev2] at e4
    have f1 : v1 = v := by simpa using e3
    have f2 : v2 = v := by simpa using e4
    have bb : b = b' := by rw [f1, ← f2, c1] at a1; exact (V.ref.inj a1).symm
    subst bb
    obtain ⟨hk, ek⟩ := List.getElem?_eq_some_iff.mp a3
    obtain ⟨hk', ek'⟩ := List.getElem?_eq_some_iff.mp c3
    have kk : k = k' := (List.getElem_inj hn).mp (ek.trans ek'.symm)
    subst kk
    exact tags_inj (by rw [ht]; exact List.nodup_range) (get e1) (get e2) a2 c2
  · have ho : l.own = true := by
      cases q : l.own with
      | true => rfl
      | false => rw [Lc.fp_own q] at hb; cases hb
    obtain ⟨v, ev, av⟩ := a.get (get e)
    rw [argOk_own ho] at av
    obtain ⟨c, k, e1, e2, e3, e4, _, w⟩ := av
    obtain ⟨w1, w2⟩ := w b xs hb
    have hin := nioOf_in (get e) e2 hb
    have hdr := io.nx k b hin
    refine ⟨⟨w1, .inr ⟨k, e2, hin, List.mem_of_mem_drop hdr⟩, w2⟩, fun j m em => ⟨fun hm z => ?_, fun ys hy => (io.dj i j l m b xs ys (get e) (get em) hb hy).symm⟩⟩
    obtain ⟨v2, ev2, av2⟩ := a.get (get em)
    rw [argOk_own hm] at av2
    obtain ⟨c2, k2, f1, f2, f3, _⟩ := av2
    rw [getv ev2, f1] at z
    have : c2 = b := by simpa using z
    refine drop_ne hn hdr ?_ f3 this
    have : k2 ∈ tags args := List.mem_filterMap.mpr ⟨m, List.mem_of_getElem? (get em), f2⟩
    rw [ht] at this
    exact List.mem_range.mp this
theorem nio_ds {xs : List PD} {k : Nat} {b : Addr} (h : (k, b) ∈ nioOf (xs.map Lc.d)) : False := by
  obtain ⟨i, l, ys, e1, _, e3⟩ := nioOf_mem h
  rw [List.getElem?_map] at e1
  obtain ⟨x, _, rfl⟩ := Option.map_eq_some_iff.mp e1
  cases e3
theorem tags_ds (xs : List PD) : tags (xs.map Lc.d) = [] := by
  induction xs with
  | nil => rfl
  | cons x r ih => exact ih
theorem IoOk.ds (xs : List PD) : IoOk H [] 0 (xs.map Lc.d) := ⟨List.nodup_nil, fun a h => (by cases h), tags_ds xs, Nat.le_refl _, fun k b z => (nio_ds z).elim, fun i j l m b zs ys e1 _ h1 _ => by
  rw [List.getElem?_map] at e1
  obtain ⟨x, _, rfl⟩ := Option.map_eq_some_iff.mp e1
  cases h1⟩
theorem outsAt_slot {ρ : En} : ∀ {is : List Nat} {k : Nat} {outs : List Lc}, outsAt ρ is k = some outs → ∀ {j : Nat} {l : Lc}, outs[j]? = some l → ∃ i, is[j]? = some i ∧ ρ[i]? = some (some l) ∧ l.own = true ∧ l.tag = some (k + j)
  | [], k, outs, e, j, l, z => by
    have e : some ([] : List Lc) = some outs := e
    cases e
    simp at z
  | i :: is, k, outs, e, j, l, z => by
    unfold outsAt at e
    split at e
    · rename_i l0 er
      split at e
      · rename_i hz
        rw [Bool.and_eq_true] at hz
        have ht : l0.tag = some k := by simpa using hz.2
        cases q : outsAt ρ is (k + 1) with
        | none => rw [q] at e; cases e
        | some os =>
          rw [q] at e; cases e
          cases j with
          | zero => simp at z; subst z; exact ⟨i, rfl, er, hz.1, ht⟩
          | succ j =>
            obtain ⟨i', g1, g2, g3, g4⟩ := outsAt_slot q (j := j) (by simpa using z)
            exact ⟨i', by simpa using g1, g2, g3, by rw [g4]; congr 1; omega⟩
      · cases e
    · cases e
theorem end_post [Pn] {ρ : En} {σ : L2.St} {F0 H0 : Hp} {ios : List Addr} {n : Nat} {args : List Lc} {outs : List Lc} {l : Lc} {v : V} (ht : tags args = List.range n) (eo : outsAt ρ (ioSlots args 0) 0 = some outs) (R2 : Rel K ⟨H0, F0, ios, nioOf args⟩ ρ F σ H)
    (r2 : RsOk K ⟨H0, F0, ios, nioOf args⟩ F H ρ σ l v) : Post K F0 H0 ios n (nioOf args) l outs v F H := by
  obtain ⟨o1, o3⟩ := outsAt_ok R2 eo
  have ol : outs.length = n := by rw [o1, ioSlots_length, ht, List.length_range]
  refine ⟨R2.ff, R2.fh, R2.fr, R2.nw, ol, fun k m em => ?_, fun a ha => (R2.ih a ha).1, fun k m b xs em hb => ?_, ?_, fun b xs hb => ?_, fun a ho ev k m ys em hy => ?_⟩
  · obtain ⟨a, o, z⟩ := o3 k m em
    rw [Nat.zero_add] at z
    exact ⟨a, o, z⟩
  · obtain ⟨i, _, g2, g3, g4⟩ := outsAt_slot eo em
    rw [Nat.zero_add] at g4
    obtain ⟨⟨z1, z2, z3⟩, w⟩ := R2.ns i m b xs g2 hb
    refine ⟨⟨z1, ?_, z3⟩, fun k' hk' e => ?_, fun k' m' ys em' hy => ?_⟩
    · rcases z2 with z2 | ⟨k2, e2, h2, _⟩
      · exact .inl z2
      · rw [g4] at e2
        cases e2
        exact .inr h2
    · obtain ⟨m', em'⟩ : ∃ m', outs[k']? = some m' := ⟨outs[k']'(by omega), List.getElem?_eq_getElem _⟩
      obtain ⟨i', _, g2', g3', g4'⟩ := outsAt_slot eo em'
      rw [Nat.zero_add] at g4'
      obtain ⟨a, es, at_⟩ := R2.at_ g2' g3'
      have ow := at_.ow
      rw [g4'] at ow
      have ow : ios[k']? = some a := ow
      rw [e] at ow
      have : b = a := by simpa using ow
      subst this
      exact (w i' m' g2').1 g3' es
    · obtain ⟨i', _, g2', g3', g4'⟩ := outsAt_slot eo em'
      rw [Nat.zero_add] at g4'
      have := (w i' m' g2').2 ys hy
      subst this
      rw [g2] at g2'
      have : m = m' := by simpa using g2'
      subst this
      rw [g4] at g4'
      exact (Option.some.inj g4').symm
  · cases l with
    | d x => exact r2
    | sc u => exact r2
    | ls p xs => obtain ⟨a, e1, e2, ⟨nf, ow, o, eo, ok⟩, _⟩ := r2; rw [e2] at ow; exact ⟨a, o, e1, ow, nf, eo, ok, e2⟩
    | dk p xs => obtain ⟨a, e1, e2, ⟨nf, ow, o, eo, ok⟩, _⟩ := r2; rw [e2] at ow; exact ⟨a, o, e1, ow, nf, eo, ok, e2⟩
    | dt p xs => obtain ⟨a, e1, e2, ⟨nf, ow, o, eo, ok⟩, _⟩ := r2; rw [e2] at ow; exact ⟨a, o, e1, ow, nf, eo, ok, e2⟩
    | ob p C xs => obtain ⟨a, e1, e2, ⟨nf, ow, o, eo, ok⟩, _⟩ := r2; rw [e2] at ow; exact ⟨a, o, e1, ow, nf, eo, ok, e2⟩
    | nb p C xs ns => obtain ⟨a, e1, e2, ⟨nf, ow, o, eo, ok⟩, _⟩ := r2; rw [e2] at ow; exact ⟨a, o, e1, ow, nf, eo, ok, e2⟩
    | ln p xs => obtain ⟨a, e1, e2, ⟨nf, ow, o, eo, ok⟩, _⟩ := r2; rw [e2] at ow; exact ⟨a, o, e1, ow, nf, eo, ok, e2⟩
  · have ho : l.own = true := by
      cases q : l.own with
      | true => rfl
      | false => rw [Lc.fp_own q] at hb; cases hb
    rw [RsOk.ref_own ho] at r2
    obtain ⟨a, rfl, e2, _, f⟩ := r2
    obtain ⟨⟨z1, z2, z3⟩, z4, z5, z6⟩ := f.ns b xs hb
    refine ⟨⟨z1, ?_, z3⟩, z4, fun k m ys em => ?_⟩
    · rcases z2 with z2 | ⟨k2, e3, _⟩
      · exact z2
      · rw [e2] at e3; cases e3
    · obtain ⟨i, _, g2, _⟩ := outsAt_slot eo em
      exact z6 i m ys g2
  · rw [RsOk.ref_own ho] at r2
    obtain ⟨a', ea, _, _, f⟩ := r2
    rw [ev] at ea
    cases ea
    obtain ⟨i, _, g2, _⟩ := outsAt_slot eo em
    exact f.hn i m ys g2 hy
theorem end_fin [Pn] {Q : VK} {Qd : Lc → List Lc → Prop} {ρ : En} {σ : L2.St} {F0 H0 : Hp} {ios : List Addr} {n : Nat} {args : List Lc} {l : Lc} {v : V} (ht : tags args = List.range n) (c : ∀ r outs v F' H', Qd r outs → Post K F0 H0 ios n (nioOf args) r outs v F' H' → Q v H')
    (hq : retOk args Qd l ρ) (R' : Rel K ⟨H0, F0, ios, nioOf args⟩ ρ F σ H) (r : RsOk K ⟨H0, F0, ios, nioOf args⟩ F H ρ σ l v) : Q v H := by
  unfold retOk at hq
  split at hq
  · rename_i outs eo
    have frz : (Qd l outs ∨ (l.fz = true ∧ Qd (.d l.pd) outs)) → Q v H := fun hq => by
      rcases hq with hq | ⟨hz, hq⟩
      · exact c _ _ v F H hq (end_post ht eo R' r)
      · obtain ⟨F2, R2, _, d⟩ := r.freeze R' hz
        exact c _ _ v F2 H hq (end_post (l := .d l.pd) ht eo R2 d)
    split at hq
    · exact c _ _ v F H hq (end_post ht eo R' r)
    · exact frz hq
  · exact False.elim hq
end
end DL
namespace DL
open PySem L2 PyProof.Rows
structure FnG (P : Program) (w : World) (K : PySem.W.Frag) (mg : Str → Option Value) (base : Heap) (CX : CXT) (k : Nat) (f : Addr) (fd : FuncData) (ps : List Str) (sp : Sp) : Prop where
  len : ∀ vs H Q E, sp vs H Q E → vs.length = ps.length
  run : ∀ (A : Around) (outer : List PySem.Env) (s : Shared) (H : Hp) (args : Args) (us : List Value) (vs : List V) (Q : VK) (E : XK), Room k A → A.guards = some [] → Env0 P w K mg base A outer s H → BindsTo s fd args (ps.zip us) → Vals vs us → sp vs H Q E →
    codeAny (model P w) A (.call (.ref f) args) (CR CX outer P w H s Q E) s
section
variable {P : Program} {w : World} {K : PySem.W.Frag} {mg : Str → Option Value} {base : Heap} {CX : CXT} {j k : Nat} {f : Addr} {fd : FuncData} {ps : List Str} {sp sp' : Sp} {X : Cx} {E : XK} {dvs : List V} {ds : List Value} {n : Str} {p pos : Pos} {e : Expr} {es : List Expr} {t : TA} {S : FSpec} {tt : TAd} {F H : Hp} {st : Stmt} {ρ : En}
theorem FnG.mono (h : FnG P w K mg base CX j f fd ps sp) (hk : j ≤ k) : FnG P w K mg base CX k f fd ps sp := ⟨h.len, fun A outer s H args us vs Q E hr => h.run A outer s H args us vs Q E (hr.mono hk)⟩
theorem runG {pins : List (Addr × Obj)} {σ : L2.St} {s : Shared} {Q : VK} {us : List Value} {vs : List V} (G : FnG X.prog X.w X.K X.mg X.base CX k f fd ps sp) (hr : Room k X.A) (hgd : X.A.guards = some []) (hb : Binds X.K fd ps ds) (hd : Vals dvs ds) (hx : Passes CX X E)
    (I : Inv X pins σ H s) (r : Vals vs us) (h : sp (vs ++ dvs) H Q E) : wpAny (model X.prog X.w) X.A (call (.ref f) us) (EP X pins σ Q) X.xe s := by
  have rr : Vals (vs ++ dvs) (us ++ ds) := r.append hd
  have ll : (us ++ ds).length = ps.length := rr.length.symm.trans (G.len _ _ _ _ h)
  have run := G.run X.A X.stack s H ⟨us, []⟩ (us ++ ds) (vs ++ dvs) Q E hr hgd I.env0 (hb s us I.kIn ll) rr h
  refine wpAny_call (codeAny_mono run fun res s' hq => ?_)
  rcases res with e' | fl
  · exact hx pins σ H s e' s' I hq
  · cases fl <;> first | exact I.after hq | exact False.elim hq
theorem peG (G : FnG X.prog X.w X.K X.mg X.base CX k f fd ps sp) (hr : Room k X.A) (hgd : X.A.guards = some []) (hg : Gl X n) (hm : X.mg n = some (.ref f)) (hk : PySem.W.keepIn X.K (.ref f) = true) (hb : Binds X.K fd ps ds) (hd : Vals dvs ds) (hx : Passes CX X E)
    (ha : PA X (e :: es) t) (hdb : (n == ("__debug__" : Str)) = false := by decide) (he : starEach (e :: es) X.env = (false, eval e X.env) :: starEach es X.env := by rfl) (hpl : (backTo pos (starEach es X.env)).any (·.1) = false := by rfl) :
    PE X (.Call (.Name n p) (e :: es) [] pos) (tCall sp dvs E t) :=
  ⟨fun pins s σ H Q I h => wpAny_Call_Name_kw (ld_glob I hg hm (PySem.W.callWith_K (h₀ := X.base) I.ok.mod.kin hk (thn (ha.run pos pins s σ H _ I h) fun us s1 ⟨vs, H1, I1, r, q⟩ => ⟨I1.kIn, runG G hr hgd hb hd hx I1 r q⟩) he hpl) hdb)⟩
theorem LF.call [Pn] (G : FnG X.prog X.w X.K X.mg X.base CX0 k f fd ps (liftC X.K S)) (hr : Room k X.A) (hgd : X.A.guards = some []) (hg : Gl X n) (hm : X.mg n = some (.ref f)) (hk : PySem.W.keepIn X.K (.ref f) = true) (hb : Binds X.K fd ps []) (ha : LA X (e :: es) tt)
    (hdb : (n == ("__debug__" : Str)) = false := by decide) (he : starEach (e :: es) X.env = (false, eval e X.env) :: starEach es X.env := by rfl) (hpl : (backTo pos (starEach es X.env)).any (·.1) = false := by rfl) :
    LF X (.Call (.Name n p) (e :: es) [] pos) (fCall S tt) := ⟨peImp (peG G hr hgd hg hm hk hb .nil pass0 ha.p hdb he hpl) fun σ H Q h => tCall_of h⟩
theorem fnG {name qual : Str} {params : Arguments} {body : List Stmt} {scope : Scope} {dV kV doc pm cdv ct oc : Value} {an od : Option Addr} {osl : Array (Option Value)} {N : List Str}
    (lk : K.lookup f = some ⟨oc, od, .func (PySem.W.fnOf name qual params body scope dV kV doc pm an cdv ct), osl⟩) (hcd : PySem.W.codeIn K cdv qual = true) (S : FnScope N ps scope) (len : ∀ vs H Q E, sp vs H Q E → vs.length = ps.length)
    (hbody : ∀ (A : Around) (outer : List PySem.Env) (s : Shared) (H : Hp) (vs : List V) (Q : VK) (E : XK), Room k (A.deeper (envOfC qual scope s.heap.objs.size f cdv)) → (A.deeper (envOfC qual scope s.heap.objs.size f cdv)).guards = some [] → sp vs H Q E →
      ∃ t, PSs (cxOf CX P w K mg base N qual scope f cdv A outer s H E) body t ∧ t { nx := fun _ H' => Q .non H', rt := Q } (start N vs) H) :
    FnG P w K mg base CX (k + 1) f (PySem.W.fnOf name qual params body scope dV kV doc pm an cdv ct) ps sp := by
  refine ⟨len, fun A outer s H args us vs Q E room hgd env0 bind vals want => ?_⟩
  have hl := len _ _ _ _ want
  have kin : K.In s.heap := env0.mod.kin.keeps fun b o q => (env0.bs b o q).1
  have nolim : s.heap.NoLimit := env0.mod.nolimit.keeps fun b o q => (env0.bs b o q).1
  have kinds : ∀ y ∈ ps.zip us, scope.names.lookup y.1 = some .local ∨ (scope.names.lookup y.1 = some .cell ∧ ((cellsFrom (s.heap.objs.size + 1) scope.names []).lookup y.1).isSome = true) := fun ⟨nm, v⟩ hy =>
    (S.par nm (List.of_mem_zip hy).1).elim .inl fun q => .inr ⟨q, PySem.W.cellsFrom_some _ _ _ (.inl q)⟩
  refine codeAny_call_function room.depth (kin _ _ lk) rfl S.co S.gen rfl (PySem.W.codeRec_of kin hcd) (bind _ _ _ _ (wpAny_newFunctionEnv_cells S.kind kinds fun env he s1 x => ?_))
  subst he
  refine ⟨nolim.keeps x.toInCall.keep, codeAny_func ?_⟩
  obtain ⟨t, ht, hq⟩ := hbody A outer s H vs Q E (room.deeper _) hgd want
  have inv : Inv (cxOf CX P w K mg base N qual scope f cdv A outer s H E) [] (start N vs) H s1 := inv_start S room.hd env0 hl vals x
  refine wpAny_mono (ht.run [] s1 (start N vs) H _ inv hq) (fun fl s' hs => ?_) fun _ _ z => z
  cases fl with
  | ret u => obtain ⟨v, σ', H', J, rv, q⟩ := hs; exact ⟨v, H', J.os, J.bare, J.base, J.hok, rv, q⟩
  | next => obtain ⟨σ', H', J, q⟩ := hs; exact ⟨V.non, H', J.os, J.bare, J.base, J.hok, rfl, q⟩
  | brk => obtain ⟨_, _, _, z⟩ := hs; exact False.elim z
  | cont => obtain ⟨_, _, _, z⟩ := hs; exact False.elim z
structure FunX (K : PySem.W.Frag) (x qual : Str) (st : Stmt) (f : Addr) (fd : FuncData) : Prop where
  ex : ∃ (oc : Value) (od : Option Addr) (dV kV doc pm : Value) (an : Option Addr) (cdv ct : Value) (osl : Array (Option Value)),
    fd = PySem.W.fnOf x qual (defArgs st) (defBody st) (defScope st) dV kV doc pm an cdv ct ∧ K.lookup f = some ⟨oc, od, .func fd, osl⟩ ∧ PySem.W.codeIn K cdv qual = true
theorem funX_of {x qual : Str} (Fn : Fun K x qual st f fd) : FunX K x qual st f fd := by
  obtain ⟨oc, od, kV, doc, pm, an, cdv, ct, osl, h⟩ := Fn.ex
  exact ⟨oc, od, .none, kV, doc, pm, an, cdv, ct, osl, h⟩
theorem funG {x qual : Str} {N : List Str} (Fn : FunX K x qual st f fd) (Sc : FnScope N ps (defScope st)) (len : ∀ vs H Q E, sp vs H Q E → vs.length = ps.length)
    (hbody : ∀ (cdv : Value) (A : Around) (outer : List PySem.Env) (s : Shared) (H : Hp) (vs : List V) (Q : VK) (E : XK), Room k (A.deeper (envOfC qual (defScope st) s.heap.objs.size f cdv)) → (A.deeper (envOfC qual (defScope st) s.heap.objs.size f cdv)).guards = some [] → sp vs H Q E →
      ∃ t, PSs (cxOf CX0 P w K mg base N qual (defScope st) f cdv A outer s H E).nox (defBody st) t ∧ t { nx := fun _ H' => Q .non H', rt := Q } (start N vs) H) : FnG P w K mg base CX0 (k + 1) f fd ps sp := by
  obtain ⟨oc, od, dV, kV, doc, pm, an, cdv, ct, osl, rfl, lk, hcd⟩ := Fn.ex
  refine fnG lk hcd Sc len fun A outer s H vs Q E hr hgd hsp => ?_
  obtain ⟨t, h, q⟩ := hbody cdv A outer s H vs Q E hr hgd hsp
  exact ⟨t, h.nox, q⟩
theorem def_okX {x qual : Str} {N : List Str} {ir : TSt} (Fn : FunX K x qual st f fd) (Sc : FnScope N ps (defScope st)) (len : ∀ args Q, S.sp args Q → args.length = ps.length)
    (hb : ∀ [Pn] (cdv : Value) (A : Around) (outer : List PySem.Env) (s : Shared) (H : Hp) (E : XK), Room k (A.deeper (envOfC qual (defScope st) s.heap.objs.size f cdv)) → (A.deeper (envOfC qual (defScope st) s.heap.objs.size f cdv)).guards = some [] → LSs (cxOf CX0 P w K mg base N qual (defScope st) f cdv A outer s H E).nox (defBody st) ir)
    (hsp : ∀ args Q, S.sp args Q → ir (endsOf args Q) (rho0 N args)) : FnG P w K mg base CX0 (k + 1) f fd ps (liftC K S) := by
  refine funG Fn Sc (fun vs H Q E h => ?_) fun cdv A outer s H vs Q E hr hgd h => ?_
  · obtain ⟨args, F, ios, n, Qd, _, a, _, h, _⟩ := h
    rw [← a.length]; exact len args Qd h
  · obtain ⟨args, F, ios, n, Qd, s0, a, io, h, c⟩ := h
    letI : Pn := Pn.any
    refine ⟨_, (hb cdv A outer s H E hr hgd).p, ?_⟩
    have R := Rel.start (N := N) trivial s0 a io
    exact ⟨⟨H, F, ios, nioOf args⟩, rho0 N args, F, endsOf args Qd, R, hsp args Qd h, ⟨fun ρ σ H' F' hq R' s' => end_fin (l := .d .none) (v := .non) io.tg c hq R' (show Df K F' .non .none from .non), fun l ρ v σ H' F' hq R' s' r => end_fin io.tg c hq R' r, fun _ _ _ _ z => False.elim z, fun _ _ _ _ z => False.elim z⟩⟩
theorem def_ok {x qual : Str} {N : List Str} {ir : TSt} (Fn : Fun K x qual st f fd) (Sc : FnScope N ps (defScope st)) (len : ∀ args Q, S.sp args Q → args.length = ps.length)
    (hb : ∀ [Pn] (cdv : Value) (A : Around) (outer : List PySem.Env) (s : Shared) (H : Hp) (E : XK), Room k (A.deeper (envOfC qual (defScope st) s.heap.objs.size f cdv)) → (A.deeper (envOfC qual (defScope st) s.heap.objs.size f cdv)).guards = some [] → LSs (cxOf CX0 P w K mg base N qual (defScope st) f cdv A outer s H E).nox (defBody st) ir)
    (hsp : ∀ args Q, S.sp args Q → ir (endsOf args Q) (rho0 N args)) : FnG P w K mg base CX0 (k + 1) f fd ps (liftC K S) := def_okX (funX_of Fn) Sc len hb hsp
structure Dn (K : PySem.W.Frag) (mg : Str → Option Value) (n : Str) (st : Stmt) (ps : List Str) : Prop where
  ex : ∃ f fd, Fun K n n st f fd ∧ mg n = some (.ref f) ∧ Binds K fd ps []
structure Cal (P : Program) (w : World) (K : PySem.W.Frag) (mg : Str → Option Value) (base : Heap) (k : Nat) (n : Str) (ps : List Str) (S : FSpec) : Prop where
  ex : ∃ f fd, FnG P w K mg base CX0 k f fd ps (liftC K S) ∧ mg n = some (.ref f) ∧ PySem.W.keepIn K (.ref f) = true ∧ Binds K fd ps []
theorem Cal.mono (h : Cal P w K mg base j n ps S) (hk : j ≤ k) : Cal P w K mg base k n ps S := by
  obtain ⟨f, fd, h1, h2⟩ := h.ex
  exact ⟨f, fd, h1.mono hk, h2⟩
theorem LF.cal [Pn] (C : Cal X.prog X.w X.K X.mg X.base k n ps S) (hr : Room k X.A) (hgd : X.A.guards = some []) (hg : Gl X n) (ha : LA X (e :: es) tt)
    (hdb : (n == ("__debug__" : Str)) = false := by decide) (he : starEach (e :: es) X.env = (false, eval e X.env) :: starEach es X.env := by rfl) (hpl : (backTo pos (starEach es X.env)).any (·.1) = false := by rfl) :
    LF X (.Call (.Name n p) (e :: es) [] pos) (fCall S tt) := by
  obtain ⟨f, fd, h1, h2, h3, h4⟩ := C.ex
  exact LF.call h1 hr hgd hg h2 h3 h4 ha hdb he hpl
theorem def_cal {N : List Str} {ir : TSt} (D : Dn K mg n st ps) (Sc : FnScope N ps (defScope st)) (len : ∀ args Q, S.sp args Q → args.length = ps.length)
    (hb : ∀ [Pn] (f : Addr) (cdv : Value) (A : Around) (outer : List PySem.Env) (s : Shared) (H : Hp) (E : XK), Room k (A.deeper (envOfC n (defScope st) s.heap.objs.size f cdv)) → (A.deeper (envOfC n (defScope st) s.heap.objs.size f cdv)).guards = some [] → LSs (cxOf CX0 P w K mg base N n (defScope st) f cdv A outer s H E).nox (defBody st) ir)
    (hsp : ∀ args Q, S.sp args Q → ir (endsOf args Q) (rho0 N args)) : Cal P w K mg base (k + 1) n ps S := by
  obtain ⟨f, fd, h1, h2, h3⟩ := D.ex
  exact ⟨f, fd, def_ok h1 Sc len (hb f) hsp, h2, h1.kp, h3⟩
structure Glb (K : PySem.W.Frag) (mg : Str → Option Value) (n : Str) (d : PD) : Prop where
  ex : ∃ v u, mg n = some u ∧ RelV v u ∧ ∀ F, Df K F v d
theorem LD.glb [Pn] {d : PD} (h : Glb X.K X.mg n d) (hg : Gl X n) (hd : (n == ("__debug__" : Str)) = false := by decide) : LD X (.Name n pos) (dC d) := by
  obtain ⟨v, u, h1, h2, h3⟩ := h.ex
  exact LD.glob hg h1 h2 h3 hd
def FreeOk (sc : Scope) : List Str → Prop
  | [] => True
  | x :: r => (sc.names.lookup x = some .cell ∨ sc.names.lookup x = some .free) ∧ FreeOk sc r
theorem FreeOk.mem {sc : Scope} : ∀ {xs : List Str} {x : Str}, FreeOk sc xs → x ∈ xs → sc.names.lookup x = some .cell ∨ sc.names.lookup x = some .free
  | [], x, _, h => by simp at h
  | y :: r, x, h, hx => by
    rcases List.mem_cons.mp hx with rfl | hx
    · exact h.1
    · exact FreeOk.mem h.2 hx
def blkChk (N : List Str) (scope : Scope) (own : List (Str × Nat)) (frees : List Str) : Bool :=
  decide (scope.kind = .function) && scope.names.all (fun y => decide (scope.names.lookup y.1 = some y.2)) && own.all (fun p => decide (N[p.2]? = some p.1)) &&
  scope.names.all (fun y => !decide (y.2 = .free) || decide (y.1 ∈ frees)) && scope.names.all (fun y => !(decide (y.2 = .local) || decide (y.2 = .cell)) || decide (y.1 ∈ own.map (·.1)) || decide (y.1 ∉ N))
theorem blk_mk {N : List Str} {sc scope : Scope} {own : List (Str × Nat)} (frees : List Str) (h : blkChk N scope own frees = true) (hf : FreeOk sc frees) : BlkOk N sc scope own := by
  unfold blkChk at h
  simp only [Bool.and_eq_true, List.all_eq_true, Bool.or_eq_true, Bool.not_eq_true', decide_eq_true_eq, decide_eq_false_iff_not] at h
  obtain ⟨⟨⟨⟨h1, h2⟩, h3⟩, h4⟩, h5⟩ := h
  refine ⟨h1, h2, h3, fun y hy e => hf.mem ((h4 y hy).resolve_left fun z => z e), fun y hy e => ?_⟩
  rcases h5 y hy with (z | z) | z
  · simp only [Bool.or_eq_false_iff, decide_eq_false_iff_not] at z
    exact e.elim (fun q => absurd q z.1) fun q => absurd q z.2
  · exact .inl z
  · exact .inr z
end
def dSlS (i : Nat) (lo hi : TPd) : TD := fun ρ Q => match ρ[i]? with
  | some (some (.sc xs)) => lo ρ fun a ρ1 => hi ρ1 fun b ρ2 => Q (.list (cutD xs a b)) ρ2
  | _ => False
theorem LD.slS [Pn] {X : Cx} {e : Expr} {lo hi : Option Expr} {tl th : TPd} {p2 pos : Pos} (i : Nat) (he : PE X e (tVar i)) (hl : LP X lo tl) (hh : LP X hi th) : LD X (.Subscript e (.Slice lo hi none p2) pos) (dSlS i tl th) :=
  ⟨peImp (pe_slice sl_list he hl.p hh.p) fun σ H Q ⟨G, ρ, F, Q', R, q, c⟩ => by
    unfold dSlS at q
    split at q
    · rename_i xs er
      obtain ⟨v, es, a, vs, rfl, hq, ds⟩ := R.sl i _ er
      refine ⟨_, es, G, ρ, F, _, R, q, fun x ρ1 H1 F1 h1 R1 s1 => ⟨G, ρ1, F1, _, R1, h1, fun y ρ2 H2 F2 h2 R2 s2 => ?_⟩⟩
      have s12 := s1.trans s2
      refine ⟨a, vs, rfl, R2.fh.seq (s12.seq hq), fun p hp => ?_⟩
      have g := Grow.frozen R2.fh hp (.lst (cutV vs x y))
      exact c _ _ _ _ _ h2 (R2.grow g) (s12.trans g.ff) (.lst (.inl upd_same) ((cut_df ds x y).mono (s12.trans g.ff)))
    · exact False.elim q⟩
section
variable {P : Program} {w : World} {K : PySem.W.Frag} {mg mb : Str → Option Value} {k : Nat} {fa a : Addr} {fd : FuncData} {x : Str} {sp : Sp} {s0 : Shared} {vs : List Value} {ns : List Int}
theorem callG (KX : K.In s0.heap) (hns : s0.heap.Ns mainGlobals mg) (hb : s0.heap.Ns builtinsNs mb) (hbb : ∀ x : Str, x ≠ "__name__" → mb x = bootBuiltins x) (hlim : s0.heap.NoLimit) (hdig : s0.heap.NoDigits) (hg : s0.gens = #[])
    (ha : s0.heap.get? a = some { cls := .type "list", data := .seq vs.toArray }) (hi : IntsAre vs ns) (hl : ns.length ≤ sizeLine) (hr : Room k callerA)
    (Fn : ∀ base : Heap, K.In base → base.Ns mainGlobals mg → base.NoDigits → FnG P w K mg base CX0 k fa fd [x] sp) (hbind : ∀ (s : Shared) (u : Value), BindsTo s fd ⟨[u], []⟩ [(x, u)])
    (hsp : ∀ H : Hp, L2.Only H → SqL K H a (ns.map V.int) → sp [.ref a] H (fun v _ => v = .bl true) fun _ _ _ => False) :
    codeAny (model P w) callerA (.call (.ref fa) ⟨[.ref a], []⟩) (fun r s' => r = .ok (.ret (.bool true)) ∧ OldK s0.heap s'.heap ∧ s'.os = s0.os ∧ AllBare s'.gens) s0 := by
  have rv := vals_ints hi
  have lenV := hi.length
  have main : ∀ H : Hp, L2.Only H → SqL K H a (ns.map V.int) → HOk P w H s0.heap → (∀ b, H b ≠ none → b = a) → (H a ≠ none → K.lookup a = none) →
      codeAny (model P w) callerA (.call (.ref fa) ⟨[.ref a], []⟩) (fun r s' => r = .ok (.ret (.bool true)) ∧ OldK s0.heap s'.heap ∧ s'.os = s0.os ∧ AllBare s'.gens) s0 := by
    intro H only sq hok one inK
    -- what is no list stands in the base, too
    have noDict : ∀ {b : Addr} {o : Obj} {es : Array DictEntry} {ep : Nat}, s0.heap.get? b = some o → o.data = .dict es ep → H b = none := fun {b o es ep} e d => by
      by_cases z : H b = none
      · exact z
      · have : b = a := one b z
        subst this
        rw [ha] at e; cases e; cases d
    have ns' : ∀ {b : Addr} {m : Str → Option Value}, s0.heap.Ns b m → (hidT s0.heap H).Ns b m := fun ⟨o, es, ep, e, d, r⟩ => ⟨o, es, ep, hidT_get e (noDict e d), d, r⟩
    have kin : K.In (hidT s0.heap H) := fun b o e => hidT_get (KX b o e) (by
      by_cases z : H b = none
      · exact z
      · have q : b = a := one b z
        subst q
        have := inK z
        rw [this] at e; cases e)
    have mod : Mod K mg (hidT s0.heap H) := ⟨kin, ns' hns, ⟨mb, ns' hb, hbb⟩, let ⟨mc, h1, h2⟩ := hlim; ⟨mc, ns' h1, h2⟩⟩
    have dig : (hidT s0.heap H).NoDigits := let ⟨mc, h1, h2⟩ := hdig; ⟨mc, ns' h1, h2⟩
    have env0 : Env0 P w K mg (hidT s0.heap H) callerA [] s0 H := ⟨rfl, mod, fun b o e => of_hidT e, Nat.le_of_eq (hidT_size _ _), trivial, fun b z => (by cases z), hok, .of_eq hg⟩
    refine codeAny_mono ((Fn _ kin (ns' hns) dig).run callerA [] s0 H ⟨[.ref a], []⟩ [.ref a] [.ref a] _ _ hr rfl env0 (hbind s0 (.ref a)) (.cons rfl .nil) (hsp H only sq)) fun r s' h => ?_
    rcases r with e | fl
    · exact False.elim h
    · cases fl <;> first | exact False.elim h | skip
      rename_i u
      obtain ⟨v, H', os, bare, un, hok', r', q⟩ := h
      have q : v = .bl true := q
      subst q
      have r' : u = Value.bool true := r'
      subst r'
      refine ⟨rfl, OldK.of_keep fun b o e => ?_, os, bare⟩
      rcases only b with z | ⟨ob, xs, z⟩
      · exact un.keep b o e z (fun hm => by cases hm) (fun hm => by cases hm)
      · have z2 := un.frzs b ob _ z
        have e1 := (hok b _ z).1
        have e2 := (hok' b _ z2).1
        rw [e] at e1; cases e1; exact e2
  cases hk : K.lookup a with
  | some o =>
    have e := KX a o hk
    rw [ha] at e
    cases e
    refine main (fun _ => none) (fun _ => .inl rfl) (.inr ⟨_, vs.toArray, _, hk, rfl, rfl, rfl, ?_, by simpa using rv⟩) (fun b u z => by cases z) (fun b z => absurd rfl z) fun z => absurd rfl z
    simp only [List.size_toArray, lenV]; exact hl
  | none =>
    let H : Hp := fun b => if b = a then some (.frz { cls := .type "list", data := .seq vs.toArray } (.lst (ns.map V.int))) else none
    have at_ : H a = some (.frz { cls := .type "list", data := .seq vs.toArray } (.lst (ns.map V.int))) := if_pos rfl
    have off : ∀ {b}, b ≠ a → H b = none := fun z => if_neg z
    refine main H (fun b => ?_) (.inl (.inr ⟨_, at_⟩)) (fun b u z => ?_) (fun b z => ?_) fun _ => hk
    · by_cases hb : b = a
      · subst hb; exact .inr ⟨_, _, at_⟩
      · exact .inl (off hb)
    · by_cases hb : b = a
      · subst hb
        rw [at_] at z
        cases z
        refine ⟨ha, ?_, vs, _, rv, ha⟩
        simp only [List.length_map]; exact hl
      · rw [off hb] at z; cases z
    · by_cases hb : b = a
      · exact hb
      · exact absurd (off hb) z
def lawS : FSpec := ⟨fun args Q => ∃ ns : List Int, args = [.sc (ns.map .int)] ∧ ns.length ≤ 63 ∧ Q (.d (.bool true)) []⟩
theorem lawS_end {H : Hp} (hS : SqL K H a (ns.map V.int)) (hl : ns.length ≤ 63) : liftC K lawS [.ref a] H (fun v _ => v = .bl true) fun _ _ _ => False := by
  refine ⟨[.sc (ns.map .int)], H, [], 0, fun r outs => r = .d (.bool true), Same.refl _, .cons ⟨a, _, rfl, hS, DfA.ints ns⟩ .nil, ⟨List.nodup_nil, (fun a h => by cases h), rfl, Nat.le_refl _, (fun k b h => by cases h), fun i j l m b xs ys e1 e2 h1 h2 => by cases i with | zero => simp at e1; subst e1; cases h1 | succ i => simp at e1⟩, ⟨ns, rfl, hl, rfl⟩, fun r outs v F' H' e Po => ?_⟩
  subst e
  have := Po.rs
  cases this
  rfl
open PySem.W in
theorem walkG {l : PySem.W.OpenLaw} {q : Program} {loose : List Str} {XP : (Str → Option Value) → Heap → Prop} {YP : World → Heap → Prop} {d : DefRec} {K : Params → PySem.W.Frag} {x : Str}
    (hn : l.most = some 63) (hdf : d.params.defaults = []) (hr : Room k callerA) (hY : ∀ (w : World) (h : Heap), YP w h → (K w.params).In h)
    (Fn : ∀ (w : World) (mg : Str → Option Value) (fa : Addr) (h : Heap), (K w.params).In h → h.Ns mainGlobals mg → mg d.name = some (.ref fa) →
      ∃ fd : FuncData, (∀ (s : Shared) (u : Value), BindsTo s fd ⟨[u], []⟩ [(x, u)]) ∧ ∀ base : Heap, (K w.params).In base → base.Ns mainGlobals mg → base.NoDigits → FnG l.prog w (K w.params) mg base CX0 k fa fd [x] (liftC (K w.params) lawS)) :
    PySem.W.WalkO q loose XP YP l.row.toRowW d [] (fun f vs => PySem.call f vs) := by
  refine Att.attach_call hn hdf fun w s₀ s₁ mg mb fa o pm cd doc a vs ns G Y ho hd hcd hmg hobj hints hlen hg => ?_
  have KX := hY w _ Y
  obtain ⟨fd, hb, hF⟩ := Fn w mg fa _ KX G.T.g hmg
  exact callG KX G.T.g G.T.b G.T.builtins G.T.nolimit G.T.nodigits hg hobj hints (Nat.le_trans hlen (by decide)) hr hF hb fun H _ hS => lawS_end hS hlen
end
end DL
namespace DL
open PySem L2 PyProof.Rows
mutual
/-- what repr shows here: no dict, ints of at most 4300 figures -/
def shw : PD → Bool
  | .int i => decide (i.natAbs < 10 ^ 4300)
  | .list xs => shwA xs
  | .tuple xs => shwA xs
  | .dict _ => false
  | .none => true
  | .bool _ => true
  | .str _ => true
def shwA : List PD → Bool
  | [] => true
  | x :: r => shw x && shwA r
end
section
variable {prog : Program} {w : World} {A : Around} {E : Value → Shared → Prop} {s : Shared} {a : Int} {t : Tok}
theorem intCallW {Q : Value → Shared → Prop} (hn : s.heap.NoDigits) (hl : a.natAbs < 10 ^ 4300) (h : Q (.str (toString a) s.toks) { s with toks := s.toks + 1 }) :
    wpAny (model prog w) A (call (.builtin "int.__repr__") [.int a t]) Q E s := by
  refine wpAny_call_entry F.slot_int_repr (typeIs_int s a t) F.entry_int_repr ?_ (F.args_int_repr_1 _); unfold Builtin.«int.__repr__»
  show wpAny _ _ (do let r ← Builtin.overDigitLimit? a; _) _ _ s; refine wpAny_bind (overDigitLimit_any hn (fun l => ?_) (fun g => absurd hl (Nat.not_lt.mpr g)))
  exact wpAny_bind (wpAny_mkStr (wpAny_pure ⟨_, rfl, h⟩) (int_text_fits10 hl))
theorem intReprW {Q : Value → Shared → Prop} (hu : A.units + 1 < cLine) (hn : s.heap.NoDigits) (hl : a.natAbs < 10 ^ 4300) (h : Q (.str (toString a) s.toks) { s with toks := s.toks + 1 }) :
    wpAny (model prog w) A (pyReprObj (.int a t)) Q E s :=
  wpAny_pyReprObj_slot (by omega) (typeIs_int s a t) F.slot_int_repr.toG (intCallW hn hl ⟨_, _, rfl, h⟩)
variable {h₀ : Heap}
mutual
theorem rk_of (hn : h₀.NoDigits) : ∀ {v : Value} {d : PD} {as : List Addr}, Reads h₀ v d as → shw d = true → d.shown.length ≤ sizeLine → ∃ bs, ReadAtMost h₀ (d.depth + 1) bs ∧ (∀ b ∈ bs, ∃ e as, Reads h₀ (.ref b) e as ∧ e.depth ≤ d.depth) ∧ ReprK prog w bs h₀ (d.depth + 1) v d.shown
  | _, _, _, .none, _, _ => ⟨[], (fun _ h => nomatch h), (fun _ h => nomatch h), by rw [PyData.shown]; exact .of_is ReprIs.none _ _ _⟩
  | _, _, _, .bool b, _, _ => ⟨[], (fun _ h => nomatch h), (fun _ h => nomatch h), by rw [PyData.shown]; exact .of_is (ReprIs.bool b) _ _ _⟩
  | _, _, _, .str x t, _, hz => ⟨[], (fun _ h => nomatch h), (fun _ h => nomatch h), by rw [PyData.shown] at hz ⊢; exact .of_is (ReprIs.str x t hz) _ _ _⟩
  | _, _, _, .int i t, hs, hz => ⟨[], (fun _ h => nomatch h), (fun _ h => nomatch h), by
      rw [PyData.shown]
      intro base hb A g E s Q hg hc hu hk hQ
      rw [pyReprUnder_leaf (v := .int i t) (by omega) (fun _ e => nomatch e)]
      unfold pyRepr
      exact wpAny_bind (intReprW (by simp only [PyData.depth] at hu; omega) (hn.keeps hk) (by simpa [shw] using hs) (wpAny_pure (hQ s.heap _ fun _ _ e => e)))⟩
  | _, _, _, .dict _ _ _ _ _, hs, _ => by simp [shw] at hs
  | _, _, _, .list (a := a) (vs := vs) (xs := xs) h1 h2 h3 h4, hs, hz => by
    rw [PyData.shown] at hz ⊢
    obtain ⟨bs, hb, hb2, hk⟩ := rkA_of hn h4 (by simpa [shw] using hs) (fun t ht => Nat.le_trans (listText_mem_le ht) hz)
    have r : Reads h₀ (.ref a) (.list xs) _ := .list h1 h2 h3 h4
    have dd : (PyData.list xs).depth = PyData.depthAll xs + 1 := by first | rfl | (simp only [PyData.depth]; done) | (simp only [PyData.depth]; omega)
    have hna : a ∉ bs := fun hm => by
      obtain ⟨e, as', r', le⟩ := hb2 a hm
      obtain ⟨q, _⟩ := reads_det (fun _ _ e _ => e) r r'
      rw [q, dd] at le
      omega
    have all : ∀ b ∈ a :: bs, ∃ e as, Reads h₀ (.ref b) e as ∧ e.depth ≤ (PyData.list xs).depth := fun b hm => by
      rcases List.mem_cons.mp hm with q | hm
      · subst q; exact ⟨_, _, r, Nat.le_refl _⟩
      · obtain ⟨e, as', r', le⟩ := hb2 b hm; exact ⟨e, as', r', by omega⟩
    refine ⟨a :: bs, fun b hm => let ⟨e, as', r', le⟩ := all b hm; ⟨e, as', r', by omega⟩, all, ?_⟩
    rw [dd]
    obtain ⟨l⟩ := vs
    cases l with
    | nil =>
      have h4' : ReadsAll h₀ [] xs _ := h4
      cases h4'
      rw [PyData.shownAll, listText_nil]
      exact ReprK.listEmpty h1 h2 h3
    | cons x l => exact ReprK.list h1 h2 h3 hna (by simpa using hk.length_eq) (fun i y e => hk.item i y (by simpa using e))
  | _, _, _, .tuple (a := a) (xs := xs) h1 h2 h3 h4, hs, hz => by
    rw [PyData.shown] at hz ⊢
    obtain ⟨bs, hb, hb2, hk⟩ := rkA_of hn h4 (by simpa [shw] using hs) (fun t ht => Nat.le_trans (tupleText_mem_le ht) hz)
    have r : Reads h₀ (.ref a) (.tuple xs) _ := .tuple h1 h2 h3 h4
    have dd : (PyData.tuple xs).depth = PyData.depthAll xs + 1 := by first | rfl | (simp only [PyData.depth]; done) | (simp only [PyData.depth]; omega)
    have hna : a ∉ bs := fun hm => by
      obtain ⟨e, as', r', le⟩ := hb2 a hm
      obtain ⟨q, _⟩ := reads_det (fun _ _ e _ => e) r r'
      rw [q, dd] at le
      omega
    have all : ∀ b ∈ a :: bs, ∃ e as, Reads h₀ (.ref b) e as ∧ e.depth ≤ (PyData.tuple xs).depth := fun b hm => by
      rcases List.mem_cons.mp hm with q | hm
      · subst q; exact ⟨_, _, r, Nat.le_refl _⟩
      · obtain ⟨e, as', r', le⟩ := hb2 b hm; exact ⟨e, as', r', by omega⟩
    refine ⟨a :: bs, fun b hm => let ⟨e, as', r', le⟩ := all b hm; ⟨e, as', r', by omega⟩, all, ?_⟩
    rw [dd]
    exact ReprK.tuple h1 h2 h3 hna hk
theorem rkA_of (hn : h₀.NoDigits) : ∀ {vs : List Value} {ds : List PD} {as : List Addr}, ReadsAll h₀ vs ds as → shwA ds = true → (∀ t ∈ PyData.shownAll ds, t.length ≤ sizeLine) →
    ∃ bs, ReadAtMost h₀ (PyData.depthAll ds + 1) bs ∧ (∀ b ∈ bs, ∃ e as, Reads h₀ (.ref b) e as ∧ e.depth ≤ PyData.depthAll ds) ∧ ReprAllK prog w bs h₀ (PyData.depthAll ds + 1) vs (PyData.shownAll ds)
  | _, _, _, .nil, _, _ => ⟨[], (fun _ h => nomatch h), (fun _ h => nomatch h), by rw [PyData.shownAll]; exact .nil⟩
  | _, _, _, .cons (d := d) (ds := ds) r rs, hs, hz => by
    have hs' : shw d = true ∧ shwA ds = true := by simpa [shwA] using hs
    rw [PyData.shownAll] at hz ⊢
    obtain ⟨b1, hb1, hc1, k1⟩ := rk_of hn r hs'.1 (hz _ List.mem_cons_self)
    obtain ⟨b2, hb2, hc2, k2⟩ := rkA_of hn rs hs'.2 (fun t ht => hz t (List.mem_cons_of_mem _ ht))
    have m1 : d.depth ≤ PyData.depthAll (d :: ds) := by simp only [PyData.depthAll]; exact Nat.le_max_left _ _
    have m2 : PyData.depthAll ds ≤ PyData.depthAll (d :: ds) := by simp only [PyData.depthAll]; exact Nat.le_max_right _ _
    have all : ∀ b ∈ b1 ++ b2, ∃ e as, Reads h₀ (.ref b) e as ∧ e.depth ≤ PyData.depthAll (d :: ds) := fun b hm => by
      rcases List.mem_append.mp hm with hm | hm
      · obtain ⟨e, as', r', le⟩ := hc1 b hm; exact ⟨e, as', r', by omega⟩
      · obtain ⟨e, as', r', le⟩ := hc2 b hm; exact ⟨e, as', r', by omega⟩
    exact ⟨b1 ++ b2, fun b hm => let ⟨e, as', r', le⟩ := all b hm; ⟨e, as', r', by omega⟩, all,
      .cons ((k1.more fun b hb => List.mem_append_left _ hb).level_le (by omega)) (k2.more_le (fun b hb => List.mem_append_right _ hb) (by omega))⟩
end
theorem reprW (hn : h₀.NoDigits) {b : Addr} {d : PD} {as : List Addr} {Q : Value → Shared → Prop} (r : Reads h₀ (.ref b) d as) (hs : shw d = true) (hz : d.shown.length ≤ sizeLine) (hg : A.guards = some []) (hu : A.units + (d.depth + 2) < cLine)
    (hk0 : ∀ b o, h₀.get? b = some o → s.heap.get? b = some o) (hQ : ∀ h' u tk, (∀ b o, s.heap.get? b = some o → h'.get? b = some o) → Q (.str d.shown u) { s with heap := h', toks := tk }) :
    wpAny (model prog w) A (call (.builtin "repr") [.ref b]) Q E s := by
  cases r with
  | dict _ _ _ _ _ => simp [shw] at hs
  | list h1 h2 h3 h4 =>
    rename_i o vs n xs bs₀
    rw [PyData.shown] at hz
    simp only [PyData.shown] at hQ
    obtain ⟨bs, hb, hb2, hk⟩ := rkA_of (prog := prog) (w := w) hn h4 (by simpa [shw] using hs) (fun t ht => Nat.le_trans (listText_mem_le ht) hz)
    have r : Reads h₀ (.ref b) (.list xs) _ := .list h1 h2 h3 h4
    have dd : (PyData.list xs).depth = PyData.depthAll xs + 1 := by first | rfl | (simp only [PyData.depth]; done) | (simp only [PyData.depth]; omega)
    have hna : b ∉ bs := fun hm => by
      obtain ⟨e, as', r', le⟩ := hb2 b hm
      obtain ⟨q, _⟩ := reads_det (fun _ _ e _ => e) r r'
      rw [q, dd] at le
      omega
    rw [dd] at hu
    refine call_repr_slot (by omega) ⟨o, hk0 _ _ h1, h2⟩ F.slot_list_repr.toG ?_
    obtain ⟨l⟩ := vs
    cases l with
    | nil =>
      have h4' : ReadsAll h₀ [] xs _ := h4
      cases h4'
      simp only [PyData.shownAll, listText_nil] at hQ
      exact call_list_repr_empty ⟨o, hk0 _ _ h1, h2⟩ (hk0 _ _ h1) h3 ⟨_, _, rfl, hQ s.heap _ _ fun _ _ e => e⟩
    | cons x l =>
      exact call_list_reprK h1 h2 h3 hna (by simpa using hk.length_eq) (fun i y e => hk.item i y (by simpa using e)) hg (fun b _ => Clear.nil b) (by show A.units + 1 + _ < cLine; omega) hk0 (fun h' u tk hk => ⟨_, _, rfl, hQ h' u tk hk⟩) hz
  | tuple h1 h2 h3 h4 =>
    rename_i o vs n xs
    rw [PyData.shown] at hz
    simp only [PyData.shown] at hQ
    obtain ⟨bs, hb, hb2, hk⟩ := rkA_of (prog := prog) (w := w) hn h4 (by simpa [shw] using hs) (fun t ht => Nat.le_trans (tupleText_mem_le ht) hz)
    have r : Reads h₀ (.ref b) (.tuple xs) _ := .tuple h1 h2 h3 h4
    have dd : (PyData.tuple xs).depth = PyData.depthAll xs + 1 := by first | rfl | (simp only [PyData.depth]; done) | (simp only [PyData.depth]; omega)
    have hna : b ∉ bs := fun hm => by
      obtain ⟨e, as', r', le⟩ := hb2 b hm
      obtain ⟨q, _⟩ := reads_det (fun _ _ e _ => e) r r'
      rw [q, dd] at le
      omega
    rw [dd] at hu
    refine call_repr_slot (by omega) ⟨o, hk0 _ _ h1, h2⟩ F.slot_tuple_repr ?_
    exact call_tuple_reprK h1 h2 h3 hna hk hg (fun b _ => Clear.nil b) (by show A.units + 1 + _ < cLine; omega) hk0 (fun h' u tk hk => ⟨_, _, rfl, hQ h' u tk hk⟩) hz
end
section
variable {X : Cx} {K : PySem.W.Frag} {F H : Hp}
def rRepr (K : PySem.W.Frag) : List V → Hp → VK → Prop := fun vs H Q => ∃ v d, vs = [v] ∧ Dp K H v d ∧ shw d = true ∧ d.depth ≤ 60 ∧ d.shown.length ≤ sizeLine ∧ Q (.str d.shown) H
def bRepr : FN
  | [d], k => (noDict d = true ∧ shw d = true ∧ d.depth ≤ 60 ∧ d.shown.length ≤ sizeLine) ∧ k (.str d.shown)
  | _, _ => False
theorem ok_repr : BiOk K bRepr (rRepr K) := by
  intro F H vs xs k Q s d h c
  unfold bRepr at h
  split at h
  · obtain ⟨v, rfl, d1⟩ := d.one
    obtain ⟨⟨h1, h2, h3, h4⟩, h5⟩ := h
    exact ⟨v, _, rfl, (d1.df s).dp h1, h2, h3, h4, c _ _ F H h5 (Grow.refl s) (.str _)⟩
  · exact False.elim h
theorem call_repr {k : Nat} (hr : Room k X.A) (hgd : X.A.guards = some []) (hnd : X.base.NoDigits) : CallR X (.builtin "repr") (rRepr X.K) := by
  intro pins s σ H xs us Q I r ⟨v, d, ev, dp, hs, hd, hz, q⟩
  subst ev
  obtain ⟨u, rfl, ru⟩ := vals1 r
  have hu := hr.units
  have nd : s.heap.NoDigits := hnd.keeps I.bk
  obtain ⟨as, rd⟩ := Dp.reads I d v u dp ru
  have fin : ∀ (h' : Heap) (x : Tok) (tk : Nat), (∀ b o, s.heap.get? b = some o → h'.get? b = some o) → EP X pins σ Q (.str d.shown x) { s with heap := h', toks := tk } := fun h' x tk hk => ⟨.str d.shown, H, I.kept (t' := tk) hk, ⟨_, rfl⟩, q⟩
  cases rd with
  | none =>
    have z := fin s.heap s.toks (s.toks + 1) (fun _ _ e => e)
    rw [PyData.shown] at z
    exact call_repr_gives (typeIs_none s) F.slot_NoneType_repr F.entry_NoneType_repr (F.args_NoneType_repr_1 _) gives_none_repr z (hx := by decide)
  | bool b =>
    have z := fin s.heap s.toks (s.toks + 1) (fun _ _ e => e)
    rw [PyData.shown] at z
    exact call_repr_gives (PySem.typeIs_bool s b) F.slot_bool_repr F.entry_bool_repr (F.args_bool_repr_1 _) (gives_bool_repr b) z (hx := by cases b <;> decide)
  | str x t =>
    have z := fin s.heap s.toks (s.toks + 1) (fun _ _ e => e)
    rw [PyData.shown] at z hz
    exact call_repr_gives (typeIs_str s x t) F.slot_str_repr F.entry_str_repr (F.args_str_repr_1 _) (gives_str_repr x t) z (hx := hz)
  | int i t =>
    refine call_repr_slot (by omega) (typeIs_int s i t) F.slot_int_repr.toG (intCallW nd (by simpa [shw] using hs) ⟨_, _, rfl, ?_⟩)
    have := fin s.heap s.toks (s.toks + 1) (fun _ _ e => e)
    rw [PyData.shown] at this; exact this
  | list h1 h2 h3 h4 => exact reprW nd (.list h1 h2 h3 h4) hs hz hgd (by omega) (fun _ _ e => e) fin
  | tuple h1 h2 h3 h4 => exact reprW nd (.tuple h1 h2 h3 h4) hs hz hgd (by omega) (fun _ _ e => e) fin
  | dict h1 h2 h3 h4 h5 => simp [shw] at hs
end
end DL
namespace DL
open PySem L2 PyProof.Rows
section
variable {G : Gm} {X : Cx} {K : PySem.W.Frag} {F F' H H' : Hp} {ρ : En} {σ : L2.St} {e e2 e3 : Expr} {es : List Expr} {pos : Pos} {r r' : R2} {f f' : F2} {oa ob oc : Op1} {ta tb tc : TD} {t u : TTd}
theorem tTest_of [Pn] {te : TE} (ht : ∀ Q, liftD K ta σ H Q → te σ H Q) {Q : Bool → Hp → Prop} (h : liftT K (tVal ta) σ H Q) : tTest te σ H Q := by
  obtain ⟨G, ρ, F, Q', R, q, c⟩ := h
  refine ht _ ⟨G, ρ, F, _, R, q, fun x ρ1 v H1 F1 h1 R1 s1 d => ?_⟩
  split at h1
  · cases d
    exact ⟨_, rfl, c _ _ _ _ h1 R1 s1⟩
  · exact False.elim h1
theorem LT.cmp [Pn] {op : CmpOp} (ho : OpR X (compareOp op) r) (hf : Op2Ok X.K f r) (ha : LO X e oa) (hb : LO X e2 ob) (hm : behindInMarks op e2 = false) : LT X (.Compare e [op] [e2] pos) (tVal (dBin f oa ob)) :=
  ⟨ptImp (pt_cmpR ho ha.p hb.p hm) fun _ _ _ h => tTest_of (fun _ z => tOp_of hf z) h⟩
theorem LT.chain [Pn] {op op' : CmpOp} {p p' : Int → Int → Bool} (ho : OpR X (compareOp op) (rI0 fun i j => .bl (p i j))) (ho' : OpR X (compareOp op') (rI0 fun i j => .bl (p' i j))) (ha : LO X e oa) (hb : LO X e2 ob) (hc : LO X e3 oc)
    (hm : lastMarks [op, op'] [e2, e3] = false := by with_unfolding_all rfl) : LT X (.Compare e [op, op'] [e2, e3] pos) (tVal (dChain p p' oa ob oc)) :=
  ⟨ptImp (pt_chain ho ho' ha.p hb.p hc.p hm) fun _ _ _ h => tTest_of (fun _ z => tChain_of z) h⟩
end
end DL
namespace DL
open PySem L2 PyProof.Rows
theorem noDictA_map : ∀ xs : List PD, noDictA xs = xs.all noDict
  | [] => rfl
  | x :: r => by rw [noDictA, noDictA_map r]; rfl
theorem canLayAll_map : ∀ xs : List PD, PyData.canLayAll0 xs = xs.all PyData.canLay0
  | [] => rfl
  | x :: r => by rw [PyData.canLayAll0, canLayAll_map r]; rfl
theorem shwA_map : ∀ xs : List PD, shwA xs = xs.all shw
  | [] => rfl
  | x :: r => by rw [shwA, shwA_map r]; rfl
theorem depthAll_le {n : Nat} : ∀ {xs : List PD}, (∀ x ∈ xs, x.depth ≤ n) → PyData.depthAll xs ≤ n
  | [], _ => Nat.zero_le _
  | x :: r, h => by
    have h1 := h x List.mem_cons_self
    have h2 := depthAll_le (xs := r) fun y hy => h y (List.mem_cons_of_mem _ hy)
    simp only [PyData.depthAll]
    exact Nat.max_le.mpr ⟨h1, h2⟩
structure Shp (n : Nat) (d : PD) : Prop where
  cl : d.canLay0 = true
  nd : noDict d = true
  dp : d.depth ≤ n
theorem Shp.shp {n : Nat} {d : PD} (h : Shp n d) (hn : n ≤ 64 := by decide) : shp d := by
  refine ⟨?_, h.nd⟩
  have := h.dp
  simp [SeqAt.shaped, h.cl]
  omega
theorem Shp.mono {n m : Nat} {d : PD} (h : Shp n d) (hn : n ≤ m) : Shp m d := ⟨h.cl, h.nd, Nat.le_trans h.dp hn⟩
theorem Shp.list {n : Nat} {xs : List PD} (h : ∀ x ∈ xs, Shp n x) : Shp (n + 1) (.list xs) := by
  refine ⟨?_, ?_, ?_⟩
  · rw [PyData.canLay0, canLayAll_map, List.all_eq_true]; exact fun x hx => (h x hx).cl
  · rw [noDict, noDictA_map, List.all_eq_true]; exact fun x hx => (h x hx).nd
  · simp only [PyData.depth]; exact Nat.succ_le_succ (depthAll_le fun x hx => (h x hx).dp)
theorem Shp.tup {n : Nat} {xs : List PD} (h : ∀ x ∈ xs, Shp n x) : Shp (n + 1) (.tuple xs) := by
  refine ⟨?_, ?_, ?_⟩
  · rw [PyData.canLay0, canLayAll_map, List.all_eq_true]; exact fun x hx => (h x hx).cl
  · rw [noDict, noDictA_map, List.all_eq_true]; exact fun x hx => (h x hx).nd
  · simp only [PyData.depth]; exact Nat.succ_le_succ (depthAll_le fun x hx => (h x hx).dp)
theorem Shp.int {n : Nat} (i : Int) : Shp n (.int i) := ⟨rfl, rfl, Nat.zero_le _⟩
theorem Shp.str {n : Nat} {x : Str} (h : PyData.canLay0 (.str x) = true) : Shp n (.str x) := ⟨h, rfl, Nat.zero_le _⟩
theorem Shp.ints (ns : List Int) {n : Nat} : ∀ x ∈ ns.map PyData.int, Shp n x := fun x hx => by
  obtain ⟨i, _, rfl⟩ := List.mem_map.mp hx
  exact .int i
theorem eqv_nil (xs : List PD) : PyData.eqv (.list xs) (.list []) = xs.isEmpty := by
  cases xs <;> simp [PyData.eqv, PyData.eqvAll]
theorem atI_some {α : Type} {xs : List α} {i : Int} (h0 : 0 ≤ i) (h1 : i < xs.length) : ∃ x, atI xs i = some x ∧ xs[i.toNat]? = some x := by
  have hk : i.toNat < xs.length := by omega
  refine ⟨xs[i.toNat], ?_, List.getElem?_eq_getElem hk⟩
  have e : i = ((i.toNat : Nat) : Int) := by omega
  have := atI_nat (List.getElem?_eq_getElem hk)
  rw [← e] at this
  exact this
theorem log2_lt {i : Int} {k : Nat} (h : i.natAbs < 2 ^ k) (hk : 0 < k) : i.natAbs.log2 < k := by
  by_cases z : i.natAbs = 0
  · rw [z]; simpa using hk
  · exact (Nat.log2_lt z).mpr h
theorem mulOk (a b : Nat) {i j : Int} (h1 : i.natAbs < 2 ^ a) (h2 : j.natAbs < 2 ^ b) (h : a + b ≤ 1000000 := by decide) (h3 : 0 < a := by decide) (h4 : 0 < b := by decide) : IntMulOk i j := by
  refine CMulW.ok ?_
  have x := log2_lt h1 h3
  have y := log2_lt h2 h4
  unfold CMulW
  omega
theorem intBits_le {i : Int} {k : Nat} (h : i.natAbs < 2 ^ k) : Builtin.Int.intBits i ≤ k := by
  unfold Builtin.Int.intBits
  by_cases z : i = 0
  · subst z; simp
  · have zz : (i == 0) = false := by simpa using z
    rw [zz]
    have := (Nat.log2_lt (n := i.natAbs) (k := k) (by omega)).mpr h
    simp only [Bool.false_eq_true, if_false]
    omega
theorem powOk {i j : Int} {k m : Nat} (h : i.natAbs < 2 ^ k) (h0 : 0 ≤ j) (h1 : j ≤ m) (hb : k * m ≤ 2 ^ 27 := by decide) : CPowW i j := by
  refine ⟨h0, ?_⟩
  have a := intBits_le h
  have b : (Builtin.Int.intBits i : Int) * j ≤ (k : Int) * m := Int.mul_le_mul (by omega) h1 h0 (by omega)
  have c : ((k * m : Nat) : Int) ≤ ((2 ^ 27 : Nat) : Int) := Int.ofNat_le.mpr hb
  rw [Int.natCast_mul] at c
  exact Int.le_trans b (by simpa using c)
end DL
namespace DL
open PySem L2 PyProof.Rows
def valP {κ : Type} [DecidableEq κ] : List (κ × PD) → κ → Option PD
  | [], _ => none
  | p :: r, k => if p.1 = k then some p.2 else valP r k
def hasP {κ : Type} [DecidableEq κ] (kvs : List (κ × PD)) (k : κ) : Bool := kvs.any fun p => decide (p.1 = k)
def putP {κ : Type} [DecidableEq κ] (kvs : List (κ × PD)) (k : κ) (x : PD) : List (κ × PD) := if hasP kvs k = true then kvs.map (fun p => if p.1 = k then (p.1, x) else p) else kvs ++ [(k, x)]
def mergeP {κ : Type} [DecidableEq κ] (kvs more : List (κ × PD)) : List (κ × PD) := more.foldl (fun acc p => putP acc p.1 p.2) kvs
section
variable {κ : Type} [DecidableEq κ] {K : PySem.W.Frag} {F F' : Hp} {us : List (κ × V)} {kvs : List (κ × PD)} {k : κ} {v : V} {x : PD}
theorem DKv.val (h : DKv K F us kvs) (k : κ) : (valV us k = none ∧ valP kvs k = none) ∨ ∃ v x, valV us k = some v ∧ valP kvs k = some x ∧ Df K F v x := by
  unfold DKv at h
  induction h with
  | nil => exact .inl ⟨rfl, rfl⟩
  | @cons p q ps qs a b ih =>
    by_cases e : p.1 = k
    · exact .inr ⟨p.2, q.2, valV_pos e, if_pos (a.1.symm.trans e), a.2⟩
    · rw [valV_neg e]
      have : valP (q :: qs) k = valP qs k := if_neg fun z => e (a.1.trans z)
      rw [this]; exact ih
theorem DKv.has (h : DKv K F us kvs) (k : κ) : (us.any fun p => decide (p.1 = k)) = hasP kvs k := by
  unfold DKv at h
  unfold hasP
  induction h with
  | nil => rfl
  | @cons p q ps qs a b ih => rw [List.any_cons, List.any_cons, ih, a.1]
theorem DKv.append (h : DKv K F us kvs) {us2 : List (κ × V)} {kvs2 : List (κ × PD)} (g : DKv K F us2 kvs2) : DKv K F (us ++ us2) (kvs ++ kvs2) := by
  unfold DKv at *
  induction h with
  | nil => exact g
  | cons a b ih => exact .cons a ih
theorem DKv.put (h : DKv K F us kvs) (d : Df K F v x) : DKv K F (putK us k v) (putP kvs k x) := by
  unfold putK putP
  rw [h.has k]
  split
  · rename_i hh
    clear hh
    unfold DKv at h ⊢
    induction h with
    | nil => exact .nil
    | @cons p q ps qs a b ih =>
      refine .cons ?_ ih
      dsimp only
      by_cases e : p.1 = k
      · rw [if_pos e, if_pos (a.1.symm.trans e)]; exact ⟨a.1, d⟩
      · rw [if_neg e, if_neg fun z => e (a.1.trans z)]; exact a
  · exact h.append (.cons ⟨rfl, d⟩ .nil)
theorem DKv.length (h : DKv K F us kvs) : us.length = kvs.length := by
  unfold DKv at h
  induction h with
  | nil => rfl
  | cons _ _ ih => rw [List.length_cons, List.length_cons, ih]
end
section
variable {G : Gm} {X : Cx} {K : PySem.W.Frag} {F F' H H' : Hp} {ρ : En} {σ : L2.St} {e e2 e3 o : Expr} {es : List Expr} {pos cpos apos : Pos} {oa ob oc : Op1} {ta tb tc : TD} {t u : TTd} {tf : TF} {v : V} {x : PD}
theorem DKv.merge {us : List (Key × V)} {kvs : List (Key × PD)} : ∀ {m : List (Key × V)} {n : List (Key × PD)}, DKv K F us kvs → DKv K F m n → DKv K F (mergeK us m) (mergeP kvs n) := by
  intro m n h g
  unfold DKv at g
  induction g generalizing us kvs with
  | nil => exact h
  | @cons p q ps qs a b ih =>
    have z : DKv K F (putK us p.1 p.2) (putP kvs q.1 q.2) := by rw [a.1]; exact h.put a.2
    exact ih z
def dVals : List TD → En → (List PD → En → Prop) → Prop
  | [], ρ, Q => Q [] ρ
  | t :: r, ρ, Q => t ρ fun x ρ1 => dVals r ρ1 fun xs ρ2 => Q (x :: xs) ρ2
def liftPr [Pn] (K : PySem.W.Frag) (ks : List Key) (ts : List TD) (σ : L2.St) (H : Hp) (Q : List (V × V) → Hp → Prop) : Prop := ∃ G ρ F Q', Rel K G ρ F σ H ∧ dVals ts ρ Q' ∧
  ∀ xs ρ' vs H' F', Q' xs ρ' → Rel K G ρ' F' σ H' → Same F F' → DfA K F' vs xs → vs.length = ks.length → Q ((ks.zip vs).map fun p => (kV p.1, p.2)) H'
structure LPr [Pn] (X : Cx) (pos : Pos) (keys : List (Option Expr)) (values : List Expr) (ks : List Key) (ts : List TD) : Prop where
  ex : ∃ trs, PPs X pos keys values trs ∧ ∀ σ H Q, liftPr X.K ks ts σ H Q → tPairs trs σ H Q
theorem LPr.nil [Pn] : LPr X pos [] [] [] [] := ⟨[], pps_nil, fun σ H Q ⟨G, ρ, F, Q', R, q, c⟩ => c [] ρ [] H F q R (Same.refl _) .nil rfl⟩
theorem LPr.cons [Pn] {ke : Expr} {k : Key} {tk : L2.TE} {ks : List (Option Expr)} {vs : List Expr} {kr : List Key} {ts : List TD} (hk : PE X ke tk) (hk2 : ∀ σ H Q, Q (kV k) H → tk σ H Q) (h : LD X e ta) (r : LPr X pos ks vs kr ts) : LPr X pos (some ke :: ks) (e :: vs) (k :: kr) (ta :: ts) := by
  obtain ⟨trs, p, w⟩ := r.ex
  refine ⟨_, pps_cons hk h.p p, fun σ H Q ⟨G, ρ, F, Q', R, q, c⟩ => hk2 _ _ _ ⟨G, ρ, F, _, R, q, fun x ρ1 v H1 F1 h1 R1 s1 d => w _ _ _ ⟨G, ρ1, F1, _, R1, h1, fun xs ρ2 us H2 F2 h2 R2 s2 d2 hl => ?_⟩⟩⟩
  exact c (x :: xs) ρ2 (v :: us) H2 F2 h2 R2 (s1.trans s2) (.cons (d.mono s2) d2) (by rw [List.length_cons, List.length_cons, hl])
theorem LPr.cs [Pn] {x : Str} {j : Nat} {p : Pos} {ks : List (Option Expr)} {vs : List Expr} {kr : List Key} {ts : List TD} (h : LD X e ta) (r : LPr X pos ks vs kr ts) : LPr X pos (some (.Constant (.str x) j p) :: ks) (e :: vs) (.inr x :: kr) (ta :: ts) :=
  LPr.cons pe_str (fun _ _ _ q => q) h r
theorem zip_kv {ks : List Key} {vs : List V} {xs : List PD} (d : DfA K F vs xs) : DKv K F (ks.zip vs) (ks.zip xs) := by
  induction ks generalizing vs xs with
  | nil => exact .nil
  | cons k r ih =>
    cases d with
    | nil => exact .nil
    | cons a b => exact .cons ⟨rfl, a⟩ (ih b)
def fDict (ks : List Key) (ts : List TD) : TF := fun ρ Q => dVals ts ρ fun xs ρ1 => Q (.dk none (mergeP [] (ks.zip xs))) ρ1
theorem LF.dict [Pn] {keys : List (Option Expr)} {values : List Expr} {ks : List Key} {ts : List TD} (h : LPr X pos keys values ks ts) (hall : keys.all (·.isSome) = true) (hl : keys.length = values.length) (h0 : keys ≠ []) (h15 : keys.length ≤ 15) (h15' : ks.length ≤ 15) :
    LF X (.Dict keys values pos) (fDict ks ts) := by
  obtain ⟨trs, p, w⟩ := h.ex
  refine ⟨peImp (pe_disp p hall hl h0 h15) fun σ H Q ⟨G, ρ, F, Q', R, q, c⟩ p hp => w _ _ _ ?_⟩
  have R1 := R.grow (Grow.owned R.fh hp (.dK []))
  have h00 := R.h0 hp
  have nd : ∀ (j : Nat) (m : Lc), ρ[j]? = some (some m) → m.own = true → σ[j]? ≠ some (some (.ref p)) := fun j m e hm z => by
    obtain ⟨a, e1, nf, ow, ob, eo, _⟩ := R.at_ e hm
    rw [z] at e1
    have : p = a := by simpa using e1
    subst this
    rw [hp] at eo; cases eo
  have dio : p ∉ G.io := fun z => (R.ih p z).2 h00
  have Rp := R1.pin (R.fh.free hp) upd_same h00 nd (R.noN_free hp)
  refine ⟨_, ρ, F, _, Rp, q, fun xs ρ1 vs H1 F1 h1 R2 s1 d hn => ?_⟩
  obtain ⟨R3, f3, h3, n3⟩ := R2.unpin R.ok h00 (R.ff.free (R.fh.free hp)) dio
  refine ⟨h3, ks.zip vs, rfl, by rw [List.length_zip]; omega, ?_⟩
  have ok : DKv X.K F1 (mergeK [] (ks.zip vs)) (mergeP [] (ks.zip xs)) := DKv.merge .nil (zip_kv d)
  exact c _ _ _ _ _ h1 (R3.side f3 h00 n3 (R2.unpinN dio)) s1 ⟨p, rfl, rfl, ⟨f3, h00, _, upd_same, ok⟩, ⟨n3, R2.unpinN dio, .nil rfl⟩⟩
def keyP : PD → Option Key
  | .int i => some (.inl i)
  | .str s => some (.inr s)
  | _ => none
theorem keyP_v {y : PD} {k : Key} (h : keyP y = some k) {v : V} (d : Dr K F H v y) : v = kV k := by
  cases y <;> simp [keyP] at h
  · subst h; exact d.int
  · subst h; exact d.str
def dGetF (t : TF) (oa ob : Op1) : TD := fun ρ Q => t ρ fun l ρ1 => match l with
  | .dk none kvs => oa.run ρ1 fun a ρ2 => ob.run ρ2 fun b ρ3 => res1 ρ3 a fun y => resF ρ3 b fun z => ∃ k, keyP y = some k ∧ Q ((valP kvs k).getD z) ρ3
  | _ => False
theorem LD.getF [Pn] (hu : X.A.units + 1 < cLine) (h : LF X o tf) (ha : LO X e oa) (hb : LO X e2 ob) (m : M2 X o "get" apos e e2 cpos) : LD X (.Call (.Attribute o "get" apos) [e, e2] [] cpos) (dGetF tf oa ob) :=
  ⟨peImp (pe_dget2 hu h.p ha.p hb.p m) fun σ H Q ⟨G, ρ, F, Q', R, q, c⟩ => ⟨G, ρ, F, _, R, q, fun l ρ1 v H1 F1 h1 R1 s1 r1 => by
    split at h1
    · rename_i kvs
      obtain ⟨G', Rp, back⟩ := r1.keep R1
      obtain ⟨a, ev, _, ⟨nf, ow, ob', eo, ok⟩, _⟩ := r1
      cases ob' <;> first | exact False.elim ok | skip
      rename_i us
      refine ⟨a, ev, .inl ⟨us, .inl eo⟩, G', ρ1, F1, _, Rp, h1, fun x ρ2 w H2 F2 h2 R2 s2 ax => ⟨G', ρ2, F2, _, R2, h2, fun y ρ3 w2 H3 F3 h3 R3 s3 ay => ?_⟩⟩
      obtain ⟨R4, r4, _⟩ := back R3 (s2.trans s3)
      obtain ⟨y', h4, dx⟩ := res1_dr R4 (ax.mono s3) h3
      obtain ⟨z', h5, dz⟩ := resF_df R4 ay h4
      obtain ⟨k, hk, h6⟩ := h5
      obtain ⟨b, ev2, _, ⟨nf2, ow2, ob2, eo2, ok2⟩, _⟩ := r4
      have eab : a = b := by rw [ev] at ev2; exact V.ref.inj ev2
      subst eab
      cases ob2 <;> first | exact False.elim ok2 | skip
      rename_i us2
      have ok2 : DKv X.K F3 us2 kvs := ok2
      refine ⟨_, .inl ⟨us2, k, .inl eo2, keyP_v hk dx, rfl⟩, ?_⟩
      have s123 := s1.trans (s2.trans s3)
      rcases ok2.val k with ⟨e1, e2⟩ | ⟨v', x', e1, e2, d'⟩
      · rw [e1]; rw [e2] at h6
        exact c _ _ _ _ _ h6 R4 s123 dz
      · rw [e1]; rw [e2] at h6
        exact c _ _ _ _ _ h6 R4 s123 d'
    · exact False.elim h1⟩⟩
end
end DL
namespace DL
open PySem L2 PyProof.Rows
section
variable {G : Gm} {X : Cx} {K : PySem.W.Frag} {F F' H H' : Hp} {ρ : En} {σ : L2.St} {e e2 e3 o : Expr} {es : List Expr} {pos p2 p p3 : Pos} {oa ob oc : Op1} {ta tb tc : TD} {t u : TTd} {tf : TF} {v : V} {x : PD}
end
section
variable {P : Program} {w : World} {K : PySem.W.Frag} {mg : Str → Option Value} {base : Heap} {k : Nat} {n : Str} {X : Cx} {p pos : Pos} {S : FSpec}
theorem LF.cal0 [Pn] (C : Cal X.prog X.w X.K X.mg X.base k n [] S) (hr : Room k X.A) (hgd : X.A.guards = some []) (hg : Gl X n) (hdb : (n == ("__debug__" : Str)) = false := by decide) : LF X (.Call (.Name n p) [] [] pos) (fCall S aNil) := by
  obtain ⟨f, fd, h1, h2, h3, h4⟩ := C.ex
  have pe : PE X (.Call (.Name n p) [] [] pos) (tCall (liftC X.K S) [] E0 tNil) := ⟨fun pins s σ H Q I h =>
    wpAny_Call_Name_kw (ld_glob I hg h2 (PySem.W.callWith_K0 I.kIn h3 (runG (us := []) h1 hr hgd h4 .nil pass0 I .nil h)) hdb)⟩
  refine ⟨peImp pe fun σ H Q h => ?_⟩
  obtain ⟨G, ρ, F, Q', R, q, c⟩ := tCall_of (m := 0) h
  exact c _ _ _ H F q rfl R (Same.refl _) .nil
end
theorem pO [Pn] {X : Cx} {e : Expr} {t : Op1} (h : LO X e t) : PE X e (liftO X.K t) := h.p
theorem pD [Pn] {X : Cx} {e : Expr} {t : TD} (h : LD X e t) : PE X e (liftD X.K t) := h.p
theorem pT [Pn] {X : Cx} {e : Expr} {t : TTd} (h : LT X e t) : PT X e (liftT X.K t) := h.p
theorem Cal.vac {P : Program} {w : World} {K : PySem.W.Frag} {mg : Str → Option Value} {base : Heap} {k : Nat} {n : Str} {st : Stmt} {ps : List Str} {S : FSpec} (D : Dn K mg n st ps) (no : ∀ args Q, ¬ S.sp args Q) : Cal P w K mg base k n ps S := by
  obtain ⟨f, fd, h1, h2, h3⟩ := D.ex
  have no' : ∀ vs H Q E, ¬ liftC K S vs H Q E := fun vs H Q E h => by
    obtain ⟨args, F, ios, n, Qd, _, _, _, h, _⟩ := h
    exact no _ _ h
  exact ⟨f, fd, ⟨fun vs H Q E h => absurd h (no' vs H Q E), fun A outer s H args us vs Q E _ _ _ _ _ h => absurd h (no' vs H Q E)⟩, h2, h1.kp, h3⟩
end DL
namespace DL
open PySem L2 PyProof.Rows
def lenS (z : Nat) : List Str → Nat
  | [] => 0
  | t :: r => t.length + 2 + lenS z r
theorem lenS_le {z : Nat} : ∀ {ts : List Str}, (∀ t ∈ ts, t.length ≤ z) → lenS z ts ≤ ts.length * (z + 2)
  | [], _ => by simp [lenS]
  | t :: r, h => by
    have h1 := h t List.mem_cons_self
    have h2 := lenS_le (ts := r) fun y hy => h y (List.mem_cons_of_mem _ hy)
    rw [lenS, List.length_cons, Nat.add_mul, Nat.one_mul]
    omega
theorem textFrom_le (z : Nat) : ∀ (ts : List Str) (k : Nat) (acc : Str), (textFrom k acc ts).length ≤ acc.length + lenS z ts
  | [], k, acc => by show acc.length ≤ _; omega
  | t :: r, k, acc => by
    have h := textFrom_le z r (k + 1) (acc ++ (if k > 0 then ", " else "" : String) ++ t)
    have e : textFrom k acc (t :: r) = textFrom (k + 1) (acc ++ (if k > 0 then ", " else "" : String) ++ t) r := rfl
    rw [e]
    rw [strLen_append, strLen_append] at h
    have : (Str.ofString (if k > 0 then ", " else "" : String)).length ≤ 2 := by split <;> decide
    rw [lenS]
    omega
theorem listText_le (z : Nat) (ts : List Str) : (listText ts).length ≤ 2 + lenS z ts := by
  have h := textFrom_le z ts 0 "["
  have e : (listText ts).length = (textFrom 0 "[" ts).length + 1 := by
    show (textFrom 0 "[" ts ++ "]").length = _
    rw [strLen_append]; rfl
  have : (Str.ofString "[").length = 1 := by decide
  omega
theorem join_le (z : Nat) : ∀ ts : List Str, (Str.join ", " ts).length ≤ lenS z ts
  | [] => by show 0 ≤ _; exact Nat.zero_le _
  | [x] => by show x.length ≤ x.length + 2 + 0; omega
  | x :: y :: r => by
    have h := join_le z (y :: r)
    have e : Str.join ", " (x :: y :: r) = x ++ ", " ++ Str.join ", " (y :: r) := rfl
    rw [e, strLen_append, strLen_append, lenS]
    have : (Str.ofString ", ").length = 2 := by decide
    omega
theorem tupleText_le (z : Nat) (ts : List Str) : (tupleText ts).length ≤ 3 + lenS z ts := by
  have h := join_le z ts
  unfold tupleText
  rw [strLen_append, strLen_append]
  have : (Str.ofString (if ts.length == 1 then ",)" else ")" : String)).length ≤ 2 := by split <;> decide
  have : (Str.ofString "(").length = 1 := by decide
  omega
structure Shw (n z : Nat) (d : PD) : Prop where
  nd : noDict d = true
  sh : shw d = true
  dp : d.depth ≤ n
  ln : d.shown.length ≤ z
theorem Shw.mono {n n' z z' : Nat} {d : PD} (h : Shw n z d) (h1 : n ≤ n') (h2 : z ≤ z') : Shw n' z' d := ⟨h.nd, h.sh, Nat.le_trans h.dp h1, Nat.le_trans h.ln h2⟩
theorem Shw.ok {n z : Nat} {d : PD} (h : Shw n z d) (h1 : n ≤ 60 := by decide) (h2 : z ≤ 16777216 := by decide) : noDict d = true ∧ shw d = true ∧ d.depth ≤ 60 ∧ d.shown.length ≤ sizeLine :=
  ⟨h.nd, h.sh, Nat.le_trans h.dp h1, by rw [sizeLine_eq]; exact Nat.le_trans h.ln h2⟩
theorem shownAll_map : ∀ xs : List PD, PyData.shownAll xs = xs.map PyData.shown
  | [] => rfl
  | x :: r => by rw [PyData.shownAll, shownAll_map r]; rfl
theorem Shw.int {n k : Nat} {i : Int} (h : i.natAbs < 2 ^ k) (hk : k ≤ 14000 := by decide) (h0 : 0 < k := by decide) : Shw n (k + 1) (.int i) := by
  refine ⟨rfl, ?_, Nat.zero_le _, ?_⟩
  · have z : (2 : Nat) ^ 14000 ≤ 10 ^ 4300 := by decide +kernel
    have : i.natAbs < 10 ^ 4300 := Nat.lt_of_lt_of_le h (Nat.le_trans (Nat.pow_le_pow_right (by decide) hk) z)
    exact decide_eq_true this
  · have := int_text_length_le h0 (log2_lt h h0)
    rw [PyData.shown, PySem.ofString_length]
    exact this
theorem Shw.non {n : Nat} : Shw n 4 .none := ⟨rfl, rfl, Nat.zero_le _, by rw [PyData.shown]; decide⟩
theorem Shw.bl {n : Nat} (b : Bool) : Shw n 5 (.bool b) := ⟨rfl, rfl, Nat.zero_le _, by rw [PyData.shown]; cases b <;> decide⟩
theorem Shw.str {n z : Nat} {x : Str} (h : (reprText x).length ≤ z) : Shw n z (.str x) := ⟨rfl, rfl, Nat.zero_le _, by rw [PyData.shown]; exact h⟩
theorem Shw.list {n z : Nat} {xs : List PD} (h : ∀ x ∈ xs, Shw n z x) : Shw (n + 1) (2 + xs.length * (z + 2)) (.list xs) := by
  refine ⟨?_, ?_, ?_, ?_⟩
  · rw [noDict, noDictA_map, List.all_eq_true]; exact fun x hx => (h x hx).nd
  · rw [shw, shwA_map, List.all_eq_true]; exact fun x hx => (h x hx).sh
  · simp only [PyData.depth]; exact Nat.succ_le_succ (depthAll_le fun x hx => (h x hx).dp)
  · rw [PyData.shown, shownAll_map]
    have a := listText_le z (xs.map PyData.shown)
    have b := lenS_le (z := z) (ts := xs.map PyData.shown) fun t ht => by
      obtain ⟨x, hx, rfl⟩ := List.mem_map.mp ht
      exact (h x hx).ln
    rw [List.length_map] at b
    omega
theorem Shw.tup {n z : Nat} {xs : List PD} (h : ∀ x ∈ xs, Shw n z x) : Shw (n + 1) (3 + xs.length * (z + 2)) (.tuple xs) := by
  refine ⟨?_, ?_, ?_, ?_⟩
  · rw [noDict, noDictA_map, List.all_eq_true]; exact fun x hx => (h x hx).nd
  · rw [shw, shwA_map, List.all_eq_true]; exact fun x hx => (h x hx).sh
  · simp only [PyData.depth]; exact Nat.succ_le_succ (depthAll_le fun x hx => (h x hx).dp)
  · rw [PyData.shown, shownAll_map]
    have a := tupleText_le z (xs.map PyData.shown)
    have b := lenS_le (z := z) (ts := xs.map PyData.shown) fun t ht => by
      obtain ⟨x, hx, rfl⟩ := List.mem_map.mp ht
      exact (h x hx).ln
    rw [List.length_map] at b
    omega
end DL
namespace DL
open PySem L2 PyProof.Rows
section
variable {X : Cx} {e e2 e3 : Expr} {pos : Pos} {ta tb tc : TD}
end
end DL
namespace DL
open PySem L2 PyProof.Rows
section
variable {X : Cx} {e : Expr} {pos : Pos} {ta : TD}
end
end DL
namespace DL
open PySem L2 PyProof.Rows
section
variable {X : Cx} {K : PySem.W.Frag} {F H : Hp}
end
end DL
namespace DL
open PySem L2 PyProof.Rows
abbrev P2 := Int × Int
def prI (p : P2) : PD := .tuple [.int p.1, .int p.2]
def lexLe (p q : P2) : Prop := p.1 < q.1 ∨ (p.1 = q.1 ∧ p.2 ≤ q.2)
section
variable {X : Cx} {K : PySem.W.Frag} {F H : Hp}
theorem dfa_perm {g : P2 → PD} {us ys : List V} (h : us.Perm ys) : ∀ {ps : List P2}, DfA K F us (ps.map g) → ∃ qs : List P2, qs.Perm ps ∧ DfA K F ys (qs.map g) := by
  induction h with
  | nil => exact fun {ps} d => ⟨ps, .refl _, d⟩
  | cons x _ ih =>
    intro ps d
    cases ps with
    | nil => cases d
    | cons p r =>
      cases d with
      | cons a b =>
        obtain ⟨qs, h1, h2⟩ := ih b
        exact ⟨p :: qs, h1.cons p, .cons a h2⟩
  | swap x y l =>
    intro ps d
    cases ps with
    | nil => cases d
    | cons p r =>
      cases d with
      | cons a b =>
        cases r with
        | nil => cases b
        | cons q r =>
          cases b with
          | cons b c => exact ⟨q :: p :: r, .swap p q r, .cons b (.cons a c)⟩
  | trans _ _ ih1 ih2 =>
    intro ps d
    obtain ⟨qs, h1, h2⟩ := ih1 d
    obtain ⟨rs, h3, h4⟩ := ih2 h2
    exact ⟨rs, h3.trans h1, h4⟩
theorem df_pair {x : V} {p : P2} (s : Same F H) (d : Df K F x (prI p)) : TupI K H x [p.1, p.2] := by
  cases d with
  | tup hq ds =>
    cases ds with
    | cons a b =>
      cases a
      cases b with
      | cons b c =>
        cases b
        cases c
        exact ⟨_, rfl, seqT s hq⟩
theorem pw_pairs {R : V → V → Prop} {P : P2 → Prop} (hR : ∀ x y p q, Df K F x (prI p) → Df K F y (prI q) → P p → P q → R x y → lexLe p q) : ∀ {ys : List V} {qs : List P2}, (∀ p ∈ qs, P p) → DfA K F ys (qs.map prI) → ys.Pairwise R → qs.Pairwise lexLe
  | _, [], _, _, _ => .nil
  | [], _ :: _, _, d, _ => by cases d
  | y :: ys, p :: qs, hP, d, h => by
    cases d with
    | cons a b =>
      cases h with
      | cons h1 h2 =>
        refine .cons (fun q hq => ?_) (pw_pairs hR (fun r hr => hP r (List.mem_cons_of_mem _ hr)) b h2)
        obtain ⟨i, hi⟩ := List.mem_iff_getElem?.mp hq
        obtain ⟨v, hv, dv⟩ := b.get (show (qs.map prI)[i]? = some (prI q) by rw [List.getElem?_map, hi]; rfl)
        exact hR _ _ _ _ a dv (hP p List.mem_cons_self) (hP q (List.mem_cons_of_mem _ hq)) (h1 v (List.mem_of_getElem? hv))
end
end DL
namespace DL
open PySem L2 PyProof.Rows
section
variable {X : Cx} {K : PySem.W.Frag} {F H : Hp}
end
end DL
namespace DL
open PySem L2 PyProof.Rows
section
variable {X : Cx} {K : PySem.W.Frag} {F H : Hp} {P : Program} {w : World}
theorem ks_of : ∀ {us : List V} {ps : List P2}, DfA K F us (ps.map prI) → ∃ ks : List (Addr × List Int), us = ks.map (fun p => V.ref p.1) ∧ ks.map (·.2) = ps.map (fun p => [p.1, p.2]) ∧ ∀ p ∈ ks, SqT K F p.1 (p.2.map V.int)
  | [], [], _ => ⟨[], rfl, rfl, fun p hp => by cases hp⟩
  | [], _ :: _, d => by cases d
  | u :: us, [], d => by cases d
  | u :: us, p :: ps, d => by
    cases d with
    | cons a b =>
      obtain ⟨ks, e1, e2, e3⟩ := ks_of b
      obtain ⟨t, rfl, h⟩ := df_pair (Same.refl F) a
      refine ⟨(t, [p.1, p.2]) :: ks, by rw [e1]; rfl, by rw [List.map_cons, e2]; rfl, fun q hq => ?_⟩
      rcases List.mem_cons.mp hq with rfl | hq
      · exact h
      · exact e3 q hq
variable {e : Expr} {p p2 pos pos2 : Pos} {tt : TAd}
end
end DL
namespace DL
open PySem L2 PyProof.Rows
section
variable {X : Cx} {K : PySem.W.Frag} {F H : Hp} {e o : Expr} {pos p : Pos} {oa ob : Op1} {tf : TF}
end
end DL
namespace DL
open PySem L2 PyProof.Rows
section
variable {X : Cx} {e o : Expr} {y : Str} {pos p p2 cpos yp : Pos} {ta : TD} {s t : Nat}
theorem keys_of {K : PySem.W.Frag} {F : Hp} : ∀ {ks : List Key} {vs : List V}, DfA K F vs (ks.map keyD) → vs = ks.map kV
  | [], vs, h => by cases h; rfl
  | k :: r, vs, h => by
    rw [List.map_cons] at h
    cases h with
    | cons a b =>
      rw [keys_of b, List.map_cons]
      congr 1
      cases k with
      | inl i =>
        have a : Df K F _ (.int i) := a
        cases a; rfl
      | inr x =>
        have a : Df K F _ (.str x) := a
        cases a; rfl
end
end DL
namespace DL
open PySem L2 PyProof.Rows
section
variable {X : Cx} {K : PySem.W.Frag} {F H : Hp}
end
end DL
namespace DL
open PySem L2 PyProof.Rows
section
variable {X : Cx} {e : Expr} {p pos : Pos} {ta : TD}
end
end DL
namespace DL
open PySem L2 PyProof.Rows
section
variable {X : Cx} {e o e2 : Expr} {pos p p2 apos cpos : Pos} {ta : TD} {oa ob : Op1} {s : Nat}
end
end DL
namespace DL
open PySem L2 PyProof.Rows
section
variable {X : Cx} {K : PySem.W.Frag} {F H : Hp} {e o : Expr} {pos p2 : Pos} {ta : TD} {oa : Op1} {s : Nat} {C : Addr} {f : Str}
def putFP (f : Str) (x : PD) : List (Str × PD) → List (Str × PD)
  | [] => [(f, x)]
  | (g, y) :: r => if g = f then (f, x) :: r else (g, y) :: putFP f x r
theorem DKv.putF {v : V} {x : PD} (hx : Df K F v x) : ∀ {us : List (Str × V)} {fs : List (Str × PD)}, DKv K F us fs → DKv K F (L2.putF f v us) (putFP f x fs)
  | [], fs, h => by cases h; exact .cons ⟨rfl, hx⟩ .nil
  | (g, u) :: us, fs, h => by
    cases h with
    | @cons _ q _ r a b =>
      obtain ⟨g', y⟩ := q
      obtain ⟨a1, a2⟩ := a
      have a1 : g = g' := a1
      subst a1
      have ih := DKv.putF hx b
      unfold L2.putF putFP
      by_cases hg : g = f
      · rw [if_pos hg, if_pos hg]; exact .cons ⟨hg, hx⟩ b
      · rw [if_neg hg, if_neg hg]; exact .cons ⟨rfl, a2⟩ ih
end
end DL
namespace DL
open PySem L2 PyProof.Rows
section
variable {X : Cx} {K : PySem.W.Frag} {G : Gm} {ρ : En} {σ : L2.St} {F H : Hp} {l : Lc} {v : V} {C : Addr}
theorem Rel.more [Pn] (R : Rel K G ρ F σ H) (k : RsOk K G F H ρ σ l v) : Rel K G ((ρ ++ [none]).set ρ.length (some l)) F ((σ ++ [none]).set ρ.length (some v)) H := by
  have ln := R.len
  have low : ∀ {j : Nat} {m : Lc}, (ρ ++ [none])[j]? = some (some m) → ρ[j]? = some (some m) ∧ (σ ++ [none])[j]? = σ[j]? := fun {j m} e => by
    rcases Nat.lt_or_ge j ρ.length with h | h
    · rw [List.getElem?_append_left h] at e
      exact ⟨e, List.getElem?_append_left (by omega)⟩
    · rw [List.getElem?_append_right h] at e
      rcases Nat.eq_zero_or_pos (j - ρ.length) with z | z
      · rw [z] at e; cases e
      · rw [List.getElem?_eq_none (by simp; omega)] at e; cases e
  have R2 : Rel K G (ρ ++ [none]) F (σ ++ [none]) H := R.weak (by simp; exact ln) fun i m e => low e
  have k2 : RsOk K G F H (ρ ++ [none]) (σ ++ [none]) l v := by
    have fr : ∀ {a : Addr}, Frs K G F H ρ σ l a → Frs K G F H (ρ ++ [none]) (σ ++ [none]) l a := fun {a} n =>
      ⟨fun j m e hm q => n.hf j m (low e).1 hm (by rw [← (low e).2]; exact q), n.hn.sub fun j m e => (low e).1, fun b xs hb => ⟨(n.ns b xs hb).1, (n.ns b xs hb).2.1, fun j m e hm q => (n.ns b xs hb).2.2.1 j m (low e).1 hm (by rw [← (low e).2]; exact q), (n.ns b xs hb).2.2.2.sub fun j m e => (low e).1⟩⟩
    cases l with
    | d x => exact k
    | sc x => exact k
    | ls p xs => obtain ⟨a, e1, e2, z, n⟩ := k; exact ⟨a, e1, e2, z, fr n⟩
    | dk p xs => obtain ⟨a, e1, e2, z, n⟩ := k; exact ⟨a, e1, e2, z, fr n⟩
    | dt p xs => obtain ⟨a, e1, e2, z, n⟩ := k; exact ⟨a, e1, e2, z, fr n⟩
    | ob p B xs => obtain ⟨a, e1, e2, z, n⟩ := k; exact ⟨a, e1, e2, z, fr n⟩
    | nb p B xs ns => obtain ⟨a, e1, e2, z, n⟩ := k; exact ⟨a, e1, e2, z, fr n⟩
    | ln p xs => obtain ⟨a, e1, e2, z, n⟩ := k; exact ⟨a, e1, e2, z, fr n⟩
  exact R2.store ρ.length k2.slot.1 k2.slot.2 k2.slotN
end
end DL
namespace DL
open PySem L2 PyProof.Rows
section
variable {X : Cx} {K : PySem.W.Frag} {σ : L2.St} {F H : Hp} {C : Addr}
end
end DL
namespace DL
open PySem L2 PyProof.Rows StX
section
variable {X : Cx} {K : PySem.W.Frag} {σ : L2.St} {F H : Hp} {C : Addr}
end
end DL
namespace DL
open PySem L2 PyProof.Rows StX
section
variable {X : Cx} {P : Program} {w : World} {K : PySem.W.Frag} {mg : Str → Option Value} {base : Heap} {j k : Nat} {C : Addr} {m qual n : Str} {ps : List Str} {S : FSpec} {st : Stmt}
structure CalR (P : Program) (w : World) (K : PySem.W.Frag) (mg : Str → Option Value) (base : Heap) (k : Nat) (R : Addr → Prop) (ps : List Str) (S : FSpec) : Prop where
  ex : ∃ f fd, FnG P w K mg base CX0 k f fd ps (liftC K S) ∧ R f ∧ Binds K fd ps []
theorem CalR.mono {R : Addr → Prop} (h : CalR P w K mg base j R ps S) (hk : j ≤ k) : CalR P w K mg base k R ps S := by
  obtain ⟨f, fd, h1, h2⟩ := h.ex
  exact ⟨f, fd, h1.mono hk, h2⟩
structure CalX (P : Program) (w : World) (K : PySem.W.Frag) (mg : Str → Option Value) (base : Heap) (k : Nat) (R : Addr → Prop) (ps : List Str) (S : FSpec) (dd : List PD) : Prop where
  ex : ∃ f fd, FnG P w K mg base CX0 k f fd ps (liftC K S) ∧ R f ∧ Binds K fd ps [] ∧ ∃ dvs ds, Vals dvs ds ∧ (∀ F : Hp, DfA K F dvs dd) ∧ Binds K fd ps ds
theorem CalX.mono {R : Addr → Prop} {dd : List PD} (h : CalX P w K mg base j R ps S dd) (hk : j ≤ k) : CalX P w K mg base k R ps S dd := by
  obtain ⟨f, fd, h1, h2⟩ := h.ex
  exact ⟨f, fd, h1.mono hk, h2⟩
def sNo : TSt := fun _ _ => False
theorem LS.no [Pn] {z : Stmt} : LS X z sNo := ⟨⟨fun pins s σ H D I h => by
  obtain ⟨_, _, _, _, _, h, _⟩ := h
  exact False.elim h⟩⟩
def dNo : TD := fun _ _ => False
theorem LD.no [Pn] {e : Expr} : LD X e dNo := ⟨⟨fun pins s σ H Q I h => by
  obtain ⟨_, _, _, _, _, h, _⟩ := h
  exact False.elim h⟩⟩
end
end DL
namespace DL
open PySem L2 PyProof.Rows
section
variable {X : Cx} {K : PySem.W.Frag} {F H : Hp} {e o e2 e3 e4 : Expr} {pos p p2 q : Pos} {oa ob oc od : Op1} {s : Nat} {tt : TAd} {σ : L2.St}
end
end DL
namespace DL
open PySem L2 PyProof.Rows PySem.Spec
section
variable {P : Program} {w : World} {A : Around} {E : Value → Shared → Prop}
end
section
variable {X : Cx} {K : PySem.W.Frag} {F H : Hp} {e : Expr} {p p2 pos pos2 : Pos} {tt : TAd}
end
end DL
namespace DL
open PySem L2 PyProof.Rows PySem.Spec
section
variable {X : Cx} {K : PySem.W.Frag}
end
end DL
namespace DL
open PySem L2 PyProof.Rows StX PySem.Spec
section
variable {X : Cx} {K : PySem.W.Frag} {σ : L2.St} {F H : Hp} {C f : Addr} {v : V} {y : PD} {pins : List (Addr × Obj)} {s : Shared} {u : Value}
end
section
variable {X : Cx} {C : Addr} {e e2 : Expr} {pos : Pos} {ta tb : TD} {S : FSpec} {k : Nat} {ps : List Str}
end
end DL
namespace DL
open PySem L2 PyProof.Rows StX PySem.Spec
section
variable {X : Cx} {K : PySem.W.Frag} {σ : L2.St} {F H : Hp} {C f : Addr} {v : V} {y : PD} {pins : List (Addr × Obj)} {s : Shared} {u : Value} {op : Operator}
end
section
variable {X : Cx} {C : Addr} {e e2 : Expr} {pos : Pos} {ta tb : TD} {S : FSpec} {k : Nat} {ps : List Str} {op : Operator} {σ : L2.St} {H : Hp} {Q : VK}
variable {p : Pos} {oa : Op1}
end
end DL
namespace DL
open PySem L2 PyProof.Rows
section
variable {X : Cx} {e : Expr} {oa : Op1} {s : Nat}
end
end DL
namespace DL
open PySem L2 PyProof.Rows StX PySem.Spec
structure RInt (op : Operator) : Prop where
  ex : ∃ nm : String, op.info.2 = nm ∧ fillsNumberSlot (.type "int") nm = pure true ∧ ∀ {prog : Program} {w : World} {A : Around} {E : Value → Shared → Prop} {s : Shared} {i : Int} {t : Tok} {x C dx : Addr} {Q : Option Value → Shared → Prop},
    s.heap.get? x = some (PySem.W.instObj C dx) → Q none s → wpAny (model prog w) A (tryMethod (.int i t) (PySem.dunder nm) (.ref x)) Q E s
theorem RInt.go {op : Operator} (r : RInt op) {prog : Program} {w : World} {A : Around} {E : Value → Shared → Prop} {s : Shared} {i : Int} {t : Tok} {x C dx : Addr} {Q : Option Value → Shared → Prop}
    (hx : s.heap.get? x = some (PySem.W.instObj C dx)) (q : Q none s) : wpAny (model prog w) A (tryMethod (.int i t) (PySem.dunder op.info.2) (.ref x)) Q E s := by
  obtain ⟨nm, e, _, g⟩ := r.ex
  rw [e]
  exact g hx q
section
open PySem.W
variable {prog : Program} {w : World} {A : Around} {E : Value → Shared → Prop} {s : Shared} {K : Frag} {x C L f g : Addr} {h₀ : Heap} {m : Str → Option Value} {od : Option Obj} {dx : Addr}
end
section
variable {X : Cx} {K : PySem.W.Frag} {σ : L2.St} {F H : Hp} {C f : Addr} {v : V} {y : PD} {pins : List (Addr × Obj)} {s : Shared} {u : Value} {op : Operator}
end
section
variable {X : Cx} {C : Addr} {e e2 : Expr} {pos : Pos} {ta tb : TD} {S : FSpec} {k : Nat} {ps : List Str} {op : Operator} {σ : L2.St} {H : Hp} {Q : VK}
end
end DL
namespace DL
open PySem L2 PyProof.Rows StX PySem.Spec
section
variable {X : Cx} {e e2 : Expr} {tt : TAd} {p pos tpos : Pos}
end
end DL
namespace DL
open PySem L2 PyProof.Rows StX PySem.Spec
section
variable {X : Cx} {e e2 : Expr} {pos : Pos} {oa ob : Op1} {σ : L2.St} {H : Hp} {Q : VK}
end
end DL
namespace DL
open PySem L2 PyProof.Rows StX PySem.Spec
abbrev I3 := Int × Int × Int
def Tri (h : Heap) (v : Value) (p : I3) : Prop := ∃ a o t u w n, v = .ref a ∧ h.get? a = some o ∧ o.cls = .type "tuple" ∧ o.data = .seq #[.int p.1 t, .int p.2.1 u, .int p.2.2 w] n
theorem Tri.one {h : Heap} {v : Value} {p q : I3} (a : Tri h v p) (b : Tri h v q) : p = q := by
  obtain ⟨c, o, t, u, w, n, rfl, e, _, d⟩ := a
  obtain ⟨c', o', t', u', w', n', e0, e', _, d'⟩ := b
  cases e0
  rw [e] at e'
  cases e'
  rw [d] at d'
  simp at d'
  exact Prod.ext d'.1.1.1 (Prod.ext d'.1.2.1.1 d'.1.2.2.1)
theorem Tri.keeps {h h' : Heap} {v : Value} {p : I3} (a : Tri h v p) (k : ∀ b o, h.get? b = some o → o.cls = .type "tuple" → h'.get? b = some o) : Tri h' v p := by
  obtain ⟨c, o, t, u, w, n, e0, e, hc, d⟩ := a
  exact ⟨c, o, t, u, w, n, e0, k c o e hc, hc, d⟩
section
variable {prog : Program} {w : World} {A : Around} {s : Shared}
end
section
variable {X : Cx}
end
end DL
namespace DL
open PySem L2 PyProof.Rows
section
variable {X : Cx} {e : Expr} {oa : Op1} {s : Nat}
end
end DL
namespace DL
open PySem L2 PyProof.Rows
section
variable {X : Cx} {e : Expr} {p pos : Pos} {s : Nat} {x : Str}
end
end DL
namespace DL
open PySem L2 PyProof.Rows
section
variable {X : Cx} {e : Expr} {p pos : Pos} {s : Nat} {x : Str}
theorem DKv.keys {K : PySem.W.Frag} {F : Hp} {us : List (Key × V)} {kvs : List (Key × PD)} (h : DKv K F us kvs) : us.map (·.1) = kvs.map (·.1) := by
  induction us generalizing kvs with
  | nil => cases h; rfl
  | cons u us ih =>
    cases h with
    | cons a b => rw [List.map_cons, List.map_cons, ih b, a.1]
end
end DL
namespace DL
open PySem L2 PyProof.Rows
abbrev Xd := Addr × List (PD × PD)
def XcOk (K : PySem.W.Frag) (F : Hp) (x : Xd) (cls : Value) (d : Option Addr) : Prop :=
  cls = .ref x.1 ∧ ((d = none ∧ x.2 = []) ∨ ∃ dd us, d = some dd ∧ F dd = some (.xd us) ∧ DfF K F us x.2)
theorem XcOk.mono {K : PySem.W.Frag} {F F' : Hp} {x : Xd} {cls : Value} {d : Option Addr} (s : Same F F') (h : XcOk K F x cls d) : XcOk K F' x cls d := by
  obtain ⟨e, h⟩ := h
  refine ⟨e, ?_⟩
  rcases h with h | ⟨dd, us, e1, e2, e3⟩
  · exact .inl h
  · exact .inr ⟨dd, us, e1, s _ _ e2, e3.mono s⟩
structure XSpec where
  sp : List Lc → (Lc → List Lc → Prop) → (Xd → List Lc → Prop) → Prop
def liftX (K : PySem.W.Frag) (S : XSpec) : Sp := fun vs H Q E => ∃ args F ios n Qd Ed, Same F H ∧ ArgsOk K F H ios args vs ∧ IoOk H ios n args ∧
  S.sp args Qd Ed ∧ (∀ r outs v F' H', Qd r outs → Post K F H ios n (nioOf args) r outs v F' H' → Q v H') ∧
  ∀ x outs cls d F' H', Ed x outs → Post K F H ios n (nioOf args) (.d .none) outs .non F' H' → XcOk K F' x cls d → E cls d H'
section
variable {G : Gm} {K : PySem.W.Frag} {F F' H H' : Hp} {ρ : En} {σ : L2.St} {v : V} {S : XSpec} {tt : TAd} {u : Xd → En → Prop}
end
section
variable {P : Program} {w : World} {K : PySem.W.Frag} {mg : Str → Option Value} {base : Heap} {j k : Nat} {f : Addr} {fd : FuncData} {ps : List Str} {sp : Sp} {X : Cx} {E : XK} {n : Str} {p pos : Pos} {e : Expr} {es : List Expr} {t : TA} {S : XSpec} {tt : TAd} {F H : Hp} {st : Stmt} {u : Xd → En → Prop} {W : WX}
structure CalE (P : Program) (w : World) (K : PySem.W.Frag) (mg : Str → Option Value) (base : Heap) (k : Nat) (n : Str) (ps : List Str) (S : XSpec) : Prop where
  ex : ∃ f fd, FnG P w K mg base (L2.CX P w) k f fd ps (liftX K S) ∧ mg n = some (.ref f) ∧ PySem.W.keepIn K (.ref f) = true ∧ Binds K fd ps []
theorem CalE.mono (h : CalE P w K mg base j n ps S) (hk : j ≤ k) : CalE P w K mg base k n ps S := by
  obtain ⟨f, fd, h1, h2⟩ := h.ex
  exact ⟨f, fd, h1.mono hk, h2⟩
theorem CalE.vac (D : Dn K mg n st ps) (no : ∀ args Q E, ¬ S.sp args Q E) : CalE P w K mg base k n ps S := by
  obtain ⟨f, fd, h1, h2, h3⟩ := D.ex
  have no' : ∀ vs H Q E, ¬ liftX K S vs H Q E := fun vs H Q E h => by
    obtain ⟨args, F, ios, n, Qd, Ed, _, _, _, h, _⟩ := h
    exact no _ _ _ h
  exact ⟨f, fd, ⟨fun vs H Q E h => absurd h (no' vs H Q E), fun A outer s H args us vs Q E _ _ _ _ _ h => absurd h (no' vs H Q E)⟩, h2, h1.kp, h3⟩
end
end DL
namespace DL
open PySem L2 PyProof.Rows
section
variable {X : Cx} {K : PySem.W.Frag} {e : Expr} {es : List Expr} {ta : TA} {x f : Str} {HC C : Addr} {p p1 p2 pos pos2 : Pos}
def spExI (K : PySem.W.Frag) (C : Addr) (names : List Str) : Sp := fun vs H Q _ => ∃ a ys, vs = .ref a :: ys ∧ ys.length = names.length ∧ OexC K C ∧ H a = some (exo a C none) ∧
  ∀ d H3, H d = none → d ≠ a → H3 a = some (exo a C (some d)) → H3 d = some (exd d (names.zip ys).reverse) → (∀ b, b ≠ a → b ≠ d → H3 b = H b) → Q .non H3
structure ExMk (P : Program) (w : World) (K : PySem.W.Frag) (mg : Str → Option Value) (base : Heap) (k : Nat) (n : Str) (C : Addr) (names : List Str) : Prop where
  ex : ∃ fI fd, OexC K C ∧ PySem.W.findIn K (.ref C) "__init__" = some (some (.ref fI)) ∧ PySem.W.typeIn K (.ref fI) = some (.type "function") ∧ FnOk P w K mg base CX0 k fI fd ("self" :: names) (spExI K C names) ∧ Binds K fd ("self" :: names) [] ∧ mg n = some (.ref C)
theorem ExMk.mono {P : Program} {w : World} {mg : Str → Option Value} {base : Heap} {j k : Nat} {n : Str} {names : List Str} (h : ExMk P w K mg base j n C names) (hk : j ≤ k) : ExMk P w K mg base k n C names := by
  obtain ⟨fI, fd, h1, h2, h3, h4, h5⟩ := h.ex
  exact ⟨fI, fd, h1, h2, h3, h4.mono hk, h5⟩
theorem DfF.append {F : Hp} : ∀ {us us2 : List (Str × V)} {es es2 : List (PD × PD)}, DfF K F us es → DfF K F us2 es2 → DfF K F (us ++ us2) (es ++ es2)
  | _, _, _, _, .nil, h => h
  | _, _, _, _, .cons a b, h => .cons a (DfF.append b h)
end
section
variable {P : Program} {w : World} {K : PySem.W.Frag} {mg : Str → Option Value} {base : Heap} {k : Nat} {fI : Addr} {fd : FuncData} {qual f1 f2 m n : Str} {st : Stmt} {C : Addr}
end
end DL
namespace L2
open PySem PySem.Spec PyProof.Rows
def Ends.gone (D : Ends) (i : Nat) : Ends := { nx := fun σ H => D.nx (σ.set i none) H, rt := D.rt, bk := fun σ H => D.bk (σ.set i none) H, ct := fun σ H => D.ct (σ.set i none) H }
section
variable {X : Cx} {pins : List (Addr × Obj)} {σ : St} {H : Hp} {s : Shared}
end
end L2
namespace DL
open PySem L2 PyProof.Rows
def excV (a : Addr) : Option Addr → Xd → PD
  | none, x => .dict [(.bool true, .int (x.1 : Int)), (.bool true, .int (a : Int)), (.bool true, .none)]
  | some dd, x => .dict ((.bool true, .int (x.1 : Int)) :: (.bool true, .int (a : Int)) :: (.bool true, .int (dd : Int)) :: x.2)
theorem XcOk.df {K : PySem.W.Frag} {F : Hp} {x : Xd} {cls : Value} {d : Option Addr} (h : XcOk K F x cls d) (a : Addr) : Df K F (.ref a) (excV a d x) ∧ (d = none → x.2 = []) := by
  obtain ⟨_, ⟨rfl, h⟩ | ⟨dd, us, rfl, h1, h2⟩⟩ := h
  · exact ⟨.ex0, fun _ => h⟩
  · exact ⟨.ex1 h1 h2, fun z => by cases z⟩
theorem dict_keys {K : PySem.W.Frag} {F : Hp} : ∀ {kvs : List (Key × V)} {es : List (PD × PD)}, DfK K F kvs es → ∀ {b : Bool} {y : PD} {r : List (PD × PD)}, es ≠ (.bool b, y) :: r
  | _, _, .nil, b, y, r => by simp
  | (k, v) :: vs, _, .cons _ _, b, y, r => by cases k <;> simp [keyD]
def DE.gone (D : DE) (i : Nat) : DE := { nx := fun ρ => D.nx (ρ.set i none), rt := D.rt, bk := fun ρ => D.bk (ρ.set i none), ct := fun ρ => D.ct (ρ.set i none) }
section
variable {K : PySem.W.Frag} {G : Gm} {ρ : En} {σ : L2.St} {F F' H H' : Hp}
theorem Rel.gone [Pn] (R : Rel K G ρ F σ H) (i : Nat) : Rel K G (ρ.set i none) F (σ.set i none) H := by
  refine R.weak (by rw [List.length_set, List.length_set]; exact R.len) fun j l e => ?_
  rcases set_get e with ⟨_, _, z⟩ | ⟨hj, e⟩
  · cases z
  · exact ⟨e, List.getElem?_set_ne (Ne.symm hj)⟩
theorem CtOk.gone [Pn] {D' : DE} {D : Ends} (k : CtOk K G F D' D) (i : Nat) : CtOk K G F (D'.gone i) (D.gone i) :=
  ⟨fun ρ σ H F' h R s => k.nx _ _ _ _ h (R.gone i) s, k.rt, fun ρ σ H F' h R s => k.bk _ _ _ _ h (R.gone i) s, fun ρ σ H F' h R s => k.ct _ _ _ _ h (R.gone i) s⟩
end
end DL
namespace PySem.W
open PySem PySem.Spec PySem.Calls PyProof.Rows
section
variable {prog : Program} {w : World} {A : Around} {E : Value → Shared → Prop} {K : Frag} {x D : Addr} {ox : Obj} {od : Option Obj}
end
end PySem.W
namespace DL
open PySem L2 PyProof.Rows StX PySem.Spec
section
variable {X : Cx} {a C C0 : Addr} {d : Option Addr} {oe : Obj} {pn : List (Addr × Obj)} {e e2 : Expr} {pos p : Pos} {i : Nat} {f : Str} {b : Bool} {c : V} {cv : Value}
end
section
variable {P : Program} {w : World} {K : PySem.W.Frag} {mg : Str → Option Value} {base : Heap} {X : Cx} {C : Addr} {e e2 o : Expr} {es : List Expr} {pos apos : Pos} {t ta tb : TD} {tt : TAd} {S : XSpec} {j k : Nat} {ps : List Str} {op : Operator} {σ : L2.St} {H F : Hp} {Q : VK} {m qual : Str} {f : Addr} {fd : FuncData} {u : Xd → En → Prop} {W : WX} {st : Stmt}
structure CalRE (P : Program) (w : World) (K : PySem.W.Frag) (mg : Str → Option Value) (base : Heap) (k : Nat) (R : Addr → Prop) (ps : List Str) (S : XSpec) : Prop where
  ex : ∃ f fd, FnG P w K mg base (L2.CX P w) k f fd ps (liftX K S) ∧ R f ∧ Binds K fd ps []
theorem CalRE.mono {R : Addr → Prop} (h : CalRE P w K mg base j R ps S) (hk : j ≤ k) : CalRE P w K mg base k R ps S := by
  obtain ⟨f, fd, h1, h2⟩ := h.ex
  exact ⟨f, fd, h1.mono hk, h2⟩
end
end DL
namespace DL
open PySem L2 PyProof.Rows
section
variable {G : Gm} {X : Cx} {K : PySem.W.Frag} {F F' F1 F2 H H' H1 : Hp} {ρ ρ1 ρ2 : En} {σ : L2.St} {e e2 e3 tg elt kx iter o : Expr} {es ifs : List Expr} {pos apos cpos : Pos} {oa ob oc : Op1} {ta tb el ek : TD} {c : TTd} {v : V} {x : PD}
def dkD (kvs : List (Key × PD)) : PD := .dict (kvs.map fun p => (keyD p.1, p.2))
theorem dfk_kv {us : List (Key × V)} {kvs : List (Key × PD)} (h : DfK K F us (kvs.map fun p => (keyD p.1, p.2))) : DKv K F us kvs := by
  induction us generalizing kvs with
  | nil =>
    cases kvs with
    | nil => exact .nil
    | cons a b => cases h
  | cons u us ih =>
    cases kvs with
    | nil => cases h
    | cons p r =>
      obtain ⟨k, v⟩ := u
      obtain ⟨k', d⟩ := p
      have keq : ∀ {a b : Key}, keyD a = keyD b → a = b := by
        intro a b e
        cases a <;> cases b <;> simp [keyD] at e <;> rw [e]
      rw [List.map_cons] at h
      generalize hz : keyD (k', d).1 = z at h
      cases h with
      | cons a b => exact .cons ⟨(keq hz).symm, a⟩ (ih b)
theorem Df.dk_at {kvs : List (Key × PD)} (h : Df K F v (dkD kvs)) : ∃ a us, v = .ref a ∧ Rd F a (.dK us) ∧ DKv K F us kvs := by
  unfold dkD at h
  generalize hz : (kvs.map fun p => (keyD p.1, p.2)) = es at h
  cases h with
  | dk ha d => exact ⟨_, _, rfl, ha, dfk_kv (by rw [hz]; exact d)⟩
  | ins _ _ => cases kvs with
    | nil => cases hz
    | cons p r => obtain ⟨k, d⟩ := p; cases k <;> simp [keyD] at hz
  | ex0 => cases kvs with
    | nil => cases hz
    | cons p r => obtain ⟨k, d⟩ := p; cases k <;> simp [keyD] at hz
  | ex1 _ _ => cases kvs with
    | nil => cases hz
    | cons p r => obtain ⟨k, d⟩ := p; cases k <;> simp [keyD] at hz
  | dkL _ _ => cases kvs with
    | nil => cases hz
    | cons p r => obtain ⟨k, d⟩ := p; cases k <;> simp [keyD] at hz
  | ky _ => cases kvs with
    | nil => cases hz
    | cons p r => obtain ⟨k, d⟩ := p; cases k <;> simp [keyD] at hz
def dGetD (t : TD) (oa ob : Op1) : TD := fun ρ Q => t ρ fun l ρ1 => ∃ kvs, l = dkD kvs ∧ oa.run ρ1 fun a ρ2 => ob.run ρ2 fun b ρ3 => res1 ρ3 a fun y => resF ρ3 b fun z => ∃ k, keyP y = some k ∧ Q ((valP kvs k).getD z) ρ3
theorem LD.getD [Pn] (hu : X.A.units + 1 < cLine) (h : LD X o ta) (ha : LO X e oa) (hb : LO X e2 ob) (m : M2 X o "get" apos e e2 cpos) : LD X (.Call (.Attribute o "get" apos) [e, e2] [] cpos) (dGetD ta oa ob) :=
  ⟨peImp (pe_dget2 hu h.p ha.p hb.p m) fun σ H Q ⟨G, ρ, F, Q', R, q, c⟩ => ⟨G, ρ, F, _, R, q, fun l ρ1 v H1 F1 h1 R1 s1 d1 => by
    obtain ⟨kvs, hl, h1⟩ := h1
    subst hl
    obtain ⟨a, us, ev, ea, ok⟩ := d1.dk_at
    subst ev
    refine ⟨a, rfl, .inl ⟨us, rdM R1.fh ea⟩, G, ρ1, F1, _, R1, h1, fun x ρ2 w H2 F2 h2 R2 s2 ax => ⟨G, ρ2, F2, _, R2, h2, fun y ρ3 w2 H3 F3 h3 R3 s3 ay => ?_⟩⟩
    obtain ⟨y', h4, dx⟩ := res1_dr R3 (ax.mono s3) h3
    obtain ⟨z', h5, dz⟩ := resF_df R3 ay h4
    obtain ⟨k, hk, h6⟩ := h5
    have ea3 := rdM R3.fh (rdM s3 (rdM s2 ea))
    refine ⟨_, .inl ⟨us, k, ea3, keyP_v hk dx, rfl⟩, ?_⟩
    have ok3 := (ok.mono s2).mono s3
    rcases ok3.val k with ⟨e1, e2⟩ | ⟨v', x', e1, e2, d'⟩
    · rw [e1]; rw [e2] at h6
      exact c _ _ _ _ _ h6 R3 (s1.trans (s2.trans s3)) dz
    · rw [e1]; rw [e2] at h6
      exact c _ _ _ _ _ h6 R3 (s1.trans (s2.trans s3)) d'⟩⟩
end
end DL
namespace DL
open PySem L2 PyProof.Rows
section
variable {X : Cx} {e : Expr} {p pos kpos cp : Pos} {ta : TD} {te : TE} {oa : Op1} {d : Int} {j : Nat}
end
end DL
namespace DL
open PySem L2 PyProof.Rows
section
variable {P : Program} {w : World} {K : PySem.W.Frag} {mg : Str → Option Value} {base : Heap} {CX : CXT} {k : Nat} {f : Addr} {fd : FuncData} {ps : List Str} {sp sp' : Sp} {n : Str} {S S' : FSpec}
theorem FnG.weak (h : FnG P w K mg base CX k f fd ps sp') (hs : ∀ vs H Q E, sp vs H Q E → sp' vs H Q E) : FnG P w K mg base CX k f fd ps sp :=
  ⟨fun vs H Q E z => h.len vs H Q E (hs vs H Q E z), fun A outer s H args us vs Q E hr hg he hb hv z => h.run A outer s H args us vs Q E hr hg he hb hv (hs vs H Q E z)⟩
theorem liftC_weak (hs : ∀ args Q, S.sp args Q → S'.sp args Q) (vs : List V) (H : Hp) (Q : VK) (E : XK) (h : liftC K S vs H Q E) : liftC K S' vs H Q E := by
  obtain ⟨args, F, ios, n, Qd, h1, h2, h3, h6, h7⟩ := h
  exact ⟨args, F, ios, n, Qd, h1, h2, h3, hs args Qd h6, h7⟩
theorem Cal.weak (c : Cal P w K mg base k n ps S') (h : ∀ args Q, S.sp args Q → S'.sp args Q) : Cal P w K mg base k n ps S := by
  obtain ⟨f, fd, h1, h2⟩ := c.ex
  exact ⟨f, fd, h1.weak (liftC_weak h), h2⟩
end
end DL
namespace DL
open PySem L2 PyProof.Rows
section
variable {G : Gm} {X : Cx} {K : PySem.W.Frag} {F F' F1 F2 H H' H1 : Hp} {ρ ρ1 ρ2 : En} {σ σ1 : L2.St} {e e2 tg : Expr} {td : TE} {pos : Pos} {oa : Op1} {s : Nat} {v : V} {x : PD}
end
end DL
namespace DL
open PySem L2 PyProof.Rows
section
variable {X : Cx} {e : Expr} {oa : Op1} {t : TD}
end
end DL
namespace L2
open PySem PySem.Spec PyProof.Rows
section
variable {X : Cx} {kx vx tg it : Expr} {ifs : List Expr} {scope : Scope} {own : List (Str × Nat)} {pos : Pos} {src : TI} {bind : TG} {when_ : TT} {key val : TE}
end
end L2
namespace DL
open PySem L2 PyProof.Rows
abbrev TKd := En → (List Key → En → Prop) → Prop
def liftK [Pn] (K : PySem.W.Frag) (t : TKd) : TE := fun σ H Q => ∃ G ρ F Q', Rel K G ρ F σ H ∧ t ρ Q' ∧ ∀ ks ρ' b H' F', Q' ks ρ' → Rel K G ρ' F' σ H' → Same F F' → F' b = some (.tup (ks.map kV)) → Q (.ref b) H'
structure LK [Pn] (X : Cx) (e : Expr) (t : TKd) : Prop where
  p : PE X e (liftK X.K t)
def kTupl (t : TAd) : TKd := fun ρ Q => t ρ fun as ρ1 => resFA ρ1 as fun xs => ∃ ks : List Key, xs = ks.map keyD ∧ Q ks ρ1
section
variable {G : Gm} {X : Cx} {K : PySem.W.Frag} {F F' F1 F2 H H' H1 : Hp} {ρ ρ1 ρ2 : En} {σ : L2.St} {e e2 e3 tg elt kx iter o : Expr} {es ifs : List Expr} {pos apos cpos p2 : Pos} {oa ob oc : Op1} {ta tb el : TD} {ek : TKd} {c : TTd} {v : V} {x : PD} {s : Nat}
theorem LK.tup [Pn] {t : TAd} {k : Nat} (h : LA X es t) (hn : es.length ≤ 100000 := by decide) : LK X (.Tuple es k pos) (kTupl t) := ⟨peImp (pe_tup h.p) fun σ H Q ⟨G, ρ, F, Q', R, q, c⟩ => ⟨G, ρ, F, _, R, q, fun as ρ1 vs H1 F1 h1 hl R1 s1 a1 => by
  obtain ⟨xs, h2, d⟩ := resFA_df R1 a1 h1
  obtain ⟨ks, rfl, h3⟩ := h2
  have ev := keys_of d
  subst ev
  refine ⟨Nat.le_trans (by rw [← a1.length, hl]; exact hn) (by decide), fun p hp => ?_⟩
  have g := Grow.frozen R1.fh hp (.tup (ks.map kV))
  exact c _ _ _ _ _ h3 (R1.grow g) (s1.trans g.ff) upd_same⟩⟩
end
end DL
namespace DL
open PySem L2 PyProof.Rows
section
variable {X : Cx} {K : PySem.W.Frag} {F H : Hp}
end
end DL
namespace L2
open PySem PyProof.Rows PySem.Spec
end L2
namespace DL
open PySem L2 PyProof.Rows PySem.Spec
section
variable {X : Cx} {K : PySem.W.Frag}
end
end DL
namespace DL
open PySem L2 PyProof.Rows
def kyP (ks : List Key) : PD := .dict [(.bool false, .tuple (ks.map keyD))]
section
variable {G : Gm} {X : Cx} {K : PySem.W.Frag} {F F' F1 F2 H H' H1 : Hp} {ρ ρ1 ρ2 : En} {σ : L2.St} {e e2 e3 tg elt kx ve ke o : Expr} {es : List Expr} {pos apos cpos p p2 : Pos} {oa ob oc : Op1} {ta tb tv el : TD} {tt : TAd} {ek : TKd} {c : TTd} {v : V} {x : PD} {s k : Nat} {tf fa fb : TF}
theorem keyD_inj {a b : Key} (e : keyD a = keyD b) : a = b := by cases a <;> cases b <;> simp [keyD] at e <;> rw [e]
theorem keysD_inj : ∀ {a b : List Key}, a.map keyD = b.map keyD → a = b
  | [], [], _ => rfl
  | [], _ :: _, h => by cases h
  | _ :: _, [], h => by cases h
  | a :: r, b :: t, h => by
    rw [List.map_cons, List.map_cons, List.cons.injEq] at h
    rw [keyD_inj h.1, keysD_inj h.2]
theorem Df.ky_at {ks : List Key} (h : Df K F v (kyP ks)) : ∃ b, v = .ref b ∧ F b = some (.tup (ks.map kV)) := by
  unfold kyP at h
  generalize hz : ks.map keyD = zs at h
  cases h with
  | dk _ h2 => exact absurd rfl (dict_keys h2)
  | ky q => rw [keysD_inj hz]; exact ⟨_, rfl, q⟩
def kD (t : TD) : TKd := fun ρ Q => t ρ fun x ρ1 => ∃ ks, x = kyP ks ∧ Q ks ρ1
theorem LK.ofD [Pn] (h : LD X e ta) : LK X e (kD ta) := ⟨peImp h.p fun σ H Q ⟨G, ρ, F, Q', R, q, c⟩ => ⟨G, ρ, F, _, R, q, fun x ρ1 v H1 F1 h1 R1 s1 d => by
  obtain ⟨ks, rfl, h2⟩ := h1
  obtain ⟨b, rfl, hb⟩ := d.ky_at
  exact c _ _ _ _ _ h2 R1 s1 hb⟩⟩
theorem Grow.keys {us : List (List Key × V)} {bs : List Addr} (h : Same F H) (hk : IsKeys H us bs) : Grow F H (fun b => if b ∈ bs then H b else F b) H := by
  refine ⟨fun b u e => ?_, Same.refl _, fun b u e => ?_, fun b h1 h2 => ?_⟩
  · show (if b ∈ bs then H b else F b) = some u
    by_cases hb : b ∈ bs
    · rw [if_pos hb]; exact h _ _ e
    · rw [if_neg hb]; exact e
  · have e : (if b ∈ bs then H b else F b) = some u := e
    by_cases hb : b ∈ bs
    · rw [if_pos hb] at e; exact e
    · rw [if_neg hb] at e; exact h _ _ e
  · by_cases hb : b ∈ bs
    · right
      show ∃ us, (if b ∈ bs then H b else F b) = _
      rw [if_pos hb]
      clear h1 h2
      unfold IsKeys at hk
      induction hk with
      | nil => cases hb
      | cons a _ ih =>
        rcases List.mem_cons.mp hb with rfl | hb
        · exact ⟨_, a⟩
        · exact ih hb
    · exact absurd (show (if b ∈ bs then H b else F b) = none by rw [if_neg hb]; exact h2) h1
def fTake (i : Nat) : TF := fun ρ Q => match ρ[i]? with
  | some (some (.dt none kvs)) => Q (.dt none kvs) (ρ.set i none)
  | _ => False
theorem LF.take [Pn] (i : Nat) (h : PE X e (tVar i)) : LF X e (fTake i) := ⟨peImp h fun σ H Q ⟨G, ρ, F, Q', R, q, c⟩ => by
  unfold fTake at q
  split at q
  · rename_i kvs er
    obtain ⟨a, es, at_⟩ := R.at_ er rfl
    refine ⟨_, es, c _ _ _ H F q (R.drop i) (Same.refl _) ⟨a, rfl, rfl, at_, R.leave er rfl es⟩⟩
  · exact False.elim q⟩
def fIte (t : TTd) (fa fb : TF) : TF := fun ρ Q => t ρ fun b ρ1 => brB b (fa ρ1 Q) (fb ρ1 Q)
theorem LF.ite [Pn] (h : LT X e c) (h2 : LF X e2 fa) (h3 : LF X e3 fb) : LF X (.IfExp e e2 e3 pos) (fIte c fa fb) := ⟨peImp (pe_ifExp h.p h2.p h3.p) fun σ H Q ⟨G, ρ, F, Q', R, q, k⟩ => ⟨G, ρ, F, _, R, q, fun b ρ1 H1 F1 h1 R1 s1 => by
  cases b with
  | true => exact ⟨G, ρ1, F1, Q', R1, h1.1 rfl, fun x ρ2 v H2 F2 h2 R2 s2 d => k _ _ _ _ _ h2 R2 (s1.trans s2) d⟩
  | false => exact ⟨G, ρ1, F1, Q', R1, h1.2 rfl, fun x ρ2 v H2 F2 h2 R2 s2 d => k _ _ _ _ _ h2 R2 (s1.trans s2) d⟩⟩⟩
end
end DL
namespace DL
open PySem L2 PyProof.Rows
section
variable {G : Gm} {X : Cx} {K : PySem.W.Frag} {F F' F1 F2 H H' H1 : Hp} {ρ ρ1 ρ2 : En} {σ : L2.St} {e e2 e3 o : Expr} {es : List Expr} {pos apos cpos : Pos} {oa ob oc : Op1} {ta tb tc : TD} {ek : TKd} {c : TTd} {v : V} {x : PD} {s k : Nat} {tf : TF}
end
end DL
namespace DL
open PySem L2 PyProof.Rows
section
variable {G : Gm} {X : Cx} {K : PySem.W.Frag} {F F' F1 F2 H H' H1 : Hp} {ρ ρ1 ρ2 : En} {σ σ1 : L2.St} {e e2 e3 tg : Expr} {td : TE} {pos p : Pos} {oa : Op1} {s : Nat} {v : V} {x : PD} {tt : TAd}
theorem Grow.one {us : List V} {q : Addr} (h : Same F H) (hq : H q = some (.tup us)) : Grow F H (fun b => if b = q then H b else F b) H := by
  refine ⟨fun b u e => ?_, Same.refl _, fun b u e => ?_, fun b h1 h2 => ?_⟩
  · show (if b = q then H b else F b) = some u
    by_cases hb : b = q
    · rw [if_pos hb]; exact h _ _ e
    · rw [if_neg hb]; exact e
  · have e : (if b = q then H b else F b) = some u := e
    by_cases hb : b = q
    · rw [if_pos hb] at e; exact e
    · rw [if_neg hb] at e; exact h _ _ e
  · by_cases hb : b = q
    · right
      show ∃ us, (if b = q then H b else F b) = _
      rw [if_pos hb, hb]; exact ⟨_, hq⟩
    · exact absurd (show (if b = q then H b else F b) = none by rw [if_neg hb]; exact h2) h1
end
end DL
namespace L2
open PySem PySem.Spec PyProof.Rows
section
variable {X : Cx}
end
end L2
namespace DL
open PySem L2 PyProof.Rows
section
variable {G : Gm} {X : Cx} {K : PySem.W.Frag} {F F' F1 F2 H H' H1 : Hp} {ρ ρ1 ρ2 : En} {σ : L2.St} {e : Expr} {p pos : Pos} {s : Nat} {x : Str}
end
section
variable {X : Cx} {K : PySem.W.Frag} {F H : Hp}
instance (p q : P2) : Decidable (lexLe p q) := by unfold lexLe; exact inferInstance
end
end DL
namespace TP
open PySem PyProof.Rows L2
def Msk (m : Nat) : Prop := m ∈ [7, 31, 127, 511]
def orb (m : Nat) : Nat → Nat → Nat → Nat
  | 0, _, z => z
  | n + 1, i, z => orb m n ((i * 5 + 1) % (m + 1)) (z ||| 2 ^ i)
theorem lcg_front (m i : Nat) : ∀ k, lcgI m ((i * 5 + 1) % (m + 1)) k = lcgI m i (k + 1)
  | 0 => rfl
  | k + 1 => by
    have e := lcg_front m i k
    show (lcgI m _ k * 5 + 1) % (m + 1) = (lcgI m i (k + 1) * 5 + 1) % (m + 1)
    rw [e]
theorem orb_hit (m : Nat) {j : Nat} : ∀ (n i z : Nat), (orb m n i z).testBit j = true → z.testBit j = true ∨ ∃ k, k < n ∧ lcgI m i k = j
  | 0, _, _, h => .inl h
  | n + 1, i, z, h => by
    rcases orb_hit m n _ _ h with c | ⟨k, hk, e⟩
    · rw [Nat.testBit_or, Bool.or_eq_true, Nat.testBit_two_pow] at c
      rcases c with c | c
      · exact .inl c
      · exact .inr ⟨0, Nat.succ_pos n, of_decide_eq_true c⟩
    · exact .inr ⟨k + 1, Nat.succ_lt_succ hk, (lcg_front m i k).symm.trans e⟩
theorem orb_all {m : Nat} (hm : Msk m) : orb m (m + 1) 0 0 = 2 ^ (m + 1) - 1 ∧ lcgI m 0 (m + 1) = 0 := by
  unfold Msk at hm
  simp only [List.mem_cons, List.not_mem_nil, or_false] at hm
  rcases hm with rfl | rfl | rfl | rfl <;> exact ⟨by decide +kernel, by decide +kernel⟩
theorem lcg_join (m i a : Nat) : ∀ k, lcgI m (lcgI m i a) k = lcgI m i (a + k)
  | 0 => rfl
  | k + 1 => by
    have e := lcg_join m i a k
    show (lcgI m (lcgI m i a) k * 5 + 1) % (m + 1) = (lcgI m i (a + k) * 5 + 1) % (m + 1)
    rw [e]
theorem orb_from {m : Nat} (hm : Msk m) {j : Nat} (hj : j ≤ m) : ∃ k, k < m + 1 ∧ lcgI m 0 k = j := by
  have t : (orb m (m + 1) 0 0).testBit j = true := by
    rw [(orb_all hm).1, Nat.testBit_two_pow_sub_one]
    exact decide_eq_true (Nat.lt_succ_of_le hj)
  rcases orb_hit m (m + 1) 0 0 t with c | c
  · rw [Nat.zero_testBit] at c
    cases c
  · exact c
theorem cover {m : Nat} (hm : Msk m) {i j : Nat} (hi : i ≤ m) (hj : j ≤ m) : ∃ k, k ≤ m ∧ lcgI m i k = j := by
  obtain ⟨a, ha, rfl⟩ := orb_from hm hi
  obtain ⟨b, hb, rfl⟩ := orb_from hm hj
  by_cases c : a ≤ b
  · exact ⟨b - a, by omega, by rw [lcg_join]; congr 1; omega⟩
  · refine ⟨m + 1 - a + b, by omega, ?_⟩
    have e : a + (m + 1 - a + b) = m + 1 + b := by omega
    rw [lcg_join, e, ← lcg_join, (orb_all hm).2]
theorem begins {m : Nat} (hm : Msk m) (h : Int) {j : Nat} (hj : j ≤ m) : ∃ n, n ≤ m + 12 ∧ runI m (SetTable.bits h) n = j := by
  obtain ⟨k, hk, e⟩ := cover hm (runI_le m (SetTable.bits h) 12) hj
  refine ⟨12 + k, by omega, ?_⟩
  rw [runI_tail (bits_lt h), e]
theorem way_in (m : Nat) (h : Int) (k : Nat) : way m h k ≤ m := by
  have b : SetTable.bits h % (m + 1) ≤ m := Nat.le_of_lt_succ (Nat.mod_lt _ (Nat.succ_pos m))
  have r := runEnd_bd b
  have q := nth_in (m := m) k (runAt m (SetTable.bits h % (m + 1)) (SetTable.bits h)) (by
    simp only [runAt]
    omega)
  exact Nat.le_trans (Nat.le_add_right _ _) q
structure Tb (t : SetTable) (n : Nat) : Prop where
  up : Ris t.place.toList
  dm : t.dummies = #[]
  sz : t.place.size = n
  msk : Msk t.mask
theorem Tb.first {t : SetTable} {n : Nat} (T : Tb t n) (hl : n ≤ t.mask) (h : Int) :
    ∃ K, K < 10 * SetTable.turns t.mask ∧ way t.mask h K ∉ t.place.toList ∧ ∀ k, k < K → way t.mask h k ∈ t.place.toList := by
  obtain ⟨j, hj, no⟩ := st_missing t.place.toList (t.mask + 1) (by rw [Array.length_toList, T.sz]; omega)
  obtain ⟨r, hr, er⟩ := begins T.msk h (Nat.le_of_lt_succ hj)
  obtain ⟨k, hk, ek⟩ := run_nth t.mask (SetTable.bits h) r
  have ew : way t.mask h k = j := (congrArg SetTable.Probe.j ek).trans er
  obtain ⟨K, a, b, c⟩ := st_least (p := fun q => way t.mask h q ∉ t.place.toList) k (ew ▸ no)
  refine ⟨K, ?_, b, fun q hq => Classical.not_not.mp (c q hq)⟩
  unfold SetTable.turns
  omega
theorem Tb.put {t : SetTable} {n : Nat} (T : Tb t n) {j : Nat} (no : j ∉ t.place.toList) : (t.put j).2 ≤ n ∧ (t.put j).2 = SetTable.below t.place j ∧ Tb (t.put j).1 (n + 1) ∧
    (t.put j).1.mask = t.mask ∧ (t.put j).1.led = t.led ∧ (t.put j).1.plain = t.plain ∧ (t.put j).1.fill = n + 1 := by
  have hb : SetTable.below t.place j ≤ n := T.sz ▸ (below_cut T.up j).1
  have hs : (t.put j).1.place.size = n + 1 := by
    rw [← Array.length_toList, put_place, len_ins _ (by rw [Array.length_toList, T.sz]; exact hb), Array.length_toList, T.sz]
  refine ⟨hb, rfl, ⟨ris_insert T.up fun e => no ?_, put_dm T.dm j, hs, T.msk⟩, rfl, rfl, rfl, ?_⟩
  · rw [← Array.getElem?_toList] at e
    exact List.mem_of_getElem? e
  · unfold SetTable.fill
    rw [hs, put_dm T.dm j]
    rfl
theorem free_some {m : Nat} (hm : Msk m) (ow : Array (Option Nat)) (h : Int) {j : Nat} (hj : j ≤ m) (hf : oAt ow j = none) :
    ∃ q, q ≤ m ∧ SetTable.layClean.free m ow (SetTable.turns m) (SetTable.bits h % (m + 1)) (SetTable.bits h) = some q ∧ oAt ow q = none := by
  obtain ⟨n, hn, e⟩ := begins hm h hj
  have e2 : way m h (off m (SetTable.bits h % (m + 1)) (SetTable.bits h) n) = j := by
    refine (congrArg SetTable.Probe.j (nth_off m n _ _)).trans ?_
    rw [itL_run]
    exact e
  obtain ⟨K, a, b, c⟩ := st_least (p := fun k => oAt ow (way m h k) = none) _ (show oAt ow (way m h (off m _ _ n)) = none from e2 ▸ hf)
  refine ⟨way m h K, way_in m h K, free_spec m ow _ n _ _ K ?_ a (fun k hk => ?_) ?_, b⟩
  · unfold SetTable.turns
    omega
  · have q := c k hk
    rw [Option.isNone_eq_false_iff, Option.isSome_iff_ne_none]
    exact q
  · exact Option.isNone_iff_eq_none.mpr b
theorem fm_same {α β : Type} {f g : α → Option β} : ∀ {l : List α}, (∀ x ∈ l, f x = g x) → l.filterMap f = l.filterMap g
  | [], _ => rfl
  | x :: l, h => by
    rw [List.filterMap_cons, List.filterMap_cons, h x List.mem_cons_self, fm_same fun y hy => h y (List.mem_cons_of_mem _ hy)]
theorem live_set {m n j : Nat} {ow : Array (Option Nat)} (hs : ow.size = m + 1) (hj : j ≤ m) (hf : oAt ow j = none) : (liveOf m (ow.setIfInBounds j (some n))).Perm ((j, n) :: liveOf m ow) := by
  have hj' : j < m + 1 := Nat.lt_succ_of_le hj
  obtain ⟨A, B, e⟩ := List.append_of_mem (List.mem_range.mpr hj')
  have nd := List.nodup_range (n := m + 1)
  rw [e, List.nodup_append] at nd
  obtain ⟨_, n2, n3⟩ := nd
  have ha : ∀ x ∈ A, x ≠ j := fun x hx => n3 x hx j List.mem_cons_self
  have hb : ∀ x ∈ B, x ≠ j := fun x hx c => (List.nodup_cons.mp n2).1 (c ▸ hx)
  have old : ow.getD j none = none := (oAt_none (by rw [hs]; exact hj')).trans hf
  have new : (ow.setIfInBounds j (some n)).getD j none = some n := by
    rw [Array.getD_eq_getD_getElem?, Array.getElem?_setIfInBounds, if_pos rfl, if_pos (by rw [hs]; exact hj')]
    rfl
  have oth : ∀ x, x ≠ j → (ow.setIfInBounds j (some n)).getD x none = ow.getD x none := fun x hx => by
    rw [Array.getD_eq_getD_getElem?, Array.getElem?_setIfInBounds, if_neg (fun c => hx c.symm), ← Array.getD_eq_getD_getElem?]
  have ca : A.filterMap (fun x => ((ow.setIfInBounds j (some n)).getD x none).map (x, ·)) = A.filterMap (fun x => (ow.getD x none).map (x, ·)) := fm_same fun x hx => by rw [oth x (ha x hx)]
  have cb : B.filterMap (fun x => ((ow.setIfInBounds j (some n)).getD x none).map (x, ·)) = B.filterMap (fun x => (ow.getD x none).map (x, ·)) := fm_same fun x hx => by rw [oth x (hb x hx)]
  unfold liveOf
  rw [e, List.filterMap_append, List.filterMap_append, ca]
  have f1 : (j :: B).filterMap (fun x => ((ow.setIfInBounds j (some n)).getD x none).map (x, ·)) = (j, n) :: B.filterMap (fun x => (ow.getD x none).map (x, ·)) := by
    rw [List.filterMap_cons_some (b := (j, n)) (by rw [new]; rfl), cb]
  have f2 : (j :: B).filterMap (fun x => (ow.getD x none).map (x, ·)) = B.filterMap (fun x => (ow.getD x none).map (x, ·)) := List.filterMap_cons_none (by rw [old]; rfl)
  rw [f1, f2]
  exact List.perm_middle
structure Ly (m n : Nat) (ow : Array (Option Nat)) : Prop where
  sz : ow.size = m + 1
  pm : ((liveOf m ow).map (·.2)).Perm (List.range n)
theorem Ly.zero (m : Nat) : Ly m 0 (Array.replicate (m + 1) none) := by
  refine ⟨Array.size_replicate, ?_⟩
  have e : liveOf m (Array.replicate (m + 1) none) = [] := by
    unfold liveOf
    rw [List.filterMap_eq_nil_iff]
    intro x hx
    rw [oAt_none (by rw [Array.size_replicate]; exact List.mem_range.mp hx), oAt_init (Nat.le_of_lt_succ (List.mem_range.mp hx))]
    rfl
  rw [e]
  exact List.Perm.refl _
theorem Ly.len {m n : Nat} {ow : Array (Option Nat)} (W : Ly m n ow) : (liveOf m ow).length = n := by
  have e := W.pm.length_eq
  rwa [List.length_map, List.length_range] at e
theorem Ly.fold {m : Nat} (hm : Msk m) : ∀ (hs : List Int) {n : Nat} {ow : Array (Option Nat)}, Ly m n ow → n + hs.length ≤ m → ∃ ow', hs.foldl (stepF m) (some (ow, n)) = some (ow', n + hs.length) ∧ Ly m (n + hs.length) ow'
  | [], n, ow, W, _ => ⟨ow, rfl, W⟩
  | h :: hs, n, ow, W, hl => by
    rw [List.length_cons] at hl
    obtain ⟨j0, a, b⟩ := st_missing ((liveOf m ow).map (·.1)) (m + 1) (by rw [List.length_map, W.len]; omega)
    have f0 : oAt ow j0 = none := by
      cases z : oAt ow j0 with
      | none => rfl
      | some k => exact absurd (List.mem_map.mpr ⟨(j0, k), (mem_live W.sz).2 ⟨Nat.le_of_lt_succ a, z⟩, rfl⟩) b
    obtain ⟨q, hq, e, f⟩ := free_some hm ow h (Nat.le_of_lt_succ a) f0
    have W2 : Ly m (n + 1) (ow.setIfInBounds q (some n)) := by
      refine ⟨by rw [Array.size_setIfInBounds]; exact W.sz, ?_⟩
      refine ((live_set W.sz hq f).map (·.2)).trans ?_
      rw [List.range_succ]
      exact (W.pm.cons n).trans (List.perm_append_singleton n _).symm
    obtain ⟨ow', g, W3⟩ := Ly.fold hm hs W2 (by omega)
    rw [Nat.add_right_comm, Nat.add_assoc] at g W3
    refine ⟨ow', ?_, W3⟩
    rw [List.foldl_cons, stepF_some e]
    exact g
theorem Tb.anew (t : SetTable) {hs : Array Int} {wt M : Nat} (hw : SetTable.sizeAbove wt - 1 = M) (hM : Msk M) (hn : hs.size ≤ M) :
    ∃ t' od, t.relaid hs wt = some (t', od) ∧ od.toList.Perm (List.range hs.size) ∧ Tb t' hs.size ∧ t'.mask = M ∧ t'.led = t.led ∧ t'.plain = t.plain := by
  obtain ⟨ow, g, W⟩ := Ly.fold hM hs.toList (Ly.zero M) (by rw [Array.length_toList]; omega)
  rw [Nat.zero_add, Array.length_toList] at g W
  refine ⟨tabOf t M ow, ((liveOf M ow).map (·.2)).toArray, ?_, ?_, ⟨?_, rfl, ?_, hM⟩, rfl, rfl, rfl⟩
  · rw [relaid_eq, hw, layClean_eq, g]
    rfl
  · exact W.pm
  · exact (ris_live (fun j => ow.getD j none) (List.range (M + 1)) List.pairwise_lt_range).1
  · show ((liveOf M ow).map (·.1)).toArray.size = hs.size
    rw [List.size_toArray, List.length_map, W.len]
theorem grow_to : SetTable.sizeAbove (SetTable.grown 5) = 32 ∧ SetTable.sizeAbove (SetTable.grown 19) = 128 ∧ SetTable.sizeAbove (SetTable.grown 77) = 512 := ⟨by decide +kernel, by decide +kernel, by decide +kernel⟩
end TP
namespace TP
open PySem PyProof.Rows L2
section
variable {P : Program} {w : World} {A : Around} {E : Value → Shared → Prop} {s : Shared}
structure Hold (P : Program) (w : World) (h : Heap) (a : Addr) (L : List (Addr × List Int)) (es : Array (Int × Value)) (ep : Nat) (t : SetTable) : Prop where
  ob : ∃ o, h.get? a = some o ∧ o.ExactSet ∧ o.data = .set es ep t
  rs : es.toList = rowsOf P w L
  tb : Tb t L.length
  tup : ∀ p ∈ L, IsT P w h p.2 p.1
  pln : t.plain = true
  room : L.length * 5 < t.mask * 3
variable {a : Addr} {L : List (Addr × List Int)} {es : Array (Int × Value)} {ep : Nat} {t : SetTable}
theorem rows_size (r : es.toList = rowsOf P w L) : es.size = L.length := by
  rw [← Array.length_toList, r, rowsOf, List.length_map]
theorem rows_at (r : es.toList = rowsOf P w L) {i : Nat} {p : Addr × List Int} (h : L[i]? = some p) : es[i]? = some (thash P w p.2, Value.ref p.1) := by
  rw [← Array.getElem?_toList, r, rowsOf, List.getElem?_map, h]
  rfl
theorem Tb.fits {n : Nat} (T : Tb t n) (h : n ≤ t.mask) : t.fits n = true := by
  have z := T.sz
  unfold SetTable.fits SetTable.fill
  rw [T.dm, z]
  simp only [Array.size_empty, Nat.add_zero, BEq.rfl, Bool.true_and, decide_eq_true_eq]
  exact h
theorem Hold.fits {h : Heap} (R : Hold P w h a L es ep t) : t.fits es.size = true := by
  have := R.room
  rw [rows_size R.rs]
  exact R.tb.fits (by omega)
theorem Tb.odd {n : Nat} (T : Tb t n) : ¬ t.gaveWay = true := by
  have m := T.msk
  unfold Msk at m
  simp only [List.mem_cons, List.not_mem_nil, or_false] at m
  unfold SetTable.gaveWay
  rcases m with e | e | e | e <;> rw [e] <;> decide
theorem no_sign (m : Nat) : ∀ (k : Nat) (p : SetTable.Probe), p.dummy = none → (nth m p k).dummy = none
  | 0, _, h => h
  | k + 1, p, h => no_sign m k _ (by unfold adv; split <;> exact h)
abbrev org (m : Nat) (h : Int) : SetTable.Probe := runAt m (SetTable.bits h % (m + 1)) (SetTable.bits h)
theorem look (R : Hold P w s.heap a L es ep t) {x : Addr} {k : List Int} (hx : IsT P w s.heap k x) (new : ∀ p ∈ L, p.2 ≠ k) (hu : A.units < cLine) {K : Nat} (hf : K < 10 * SetTable.turns t.mask)
    (out : way t.mask (thash P w k) K ∉ t.place.toList) (inn : ∀ c, c < K → way t.mask (thash P w k) c ∈ t.place.toList) {Q : SetFound → Shared → Prop} (q : Q (.free (way t.mask (thash P w k) K) false) s) :
    ∀ (f c : Nat) (st : Option SetTable.Probe), st.getD (t.probeStart (thash P w k)) = nth t.mask (org t.mask (thash P w k)) c → c ≤ K → K < c + f → wpAny (model P w) A (setSearchFrom a (.ref x) (thash P w k) true f st) Q E s := by
  obtain ⟨o, ho, hex, hd⟩ := R.ob
  intro f
  induction f with
  | zero =>
    intro c st _ h1 h2
    omega
  | succ f ih =>
    intro c st hst h1 h2
    rw [setSearchFrom_succ]
    refine wpAny_bind (wpAny_setState_of ho hd R.fits ?_)
    dsimp only
    refine wp_if_neg R.tb.odd ?_
    first | refine wpAny_bind (wpAny_pure ?_) | skip
    have at_ : ∀ d, (nth t.mask (nth t.mask (org t.mask (thash P w k)) c) d) = nth t.mask (org t.mask (thash P w k)) (c + d) := fun d => (nth_add t.mask c _ d).symm
    have G := go_spec t R.tb.up R.tb.dm (fun i => (es[i]?.map (·.1)).getD 0) (thash P w k) (10 * SetTable.turns t.mask) (K - c) (nth t.mask (org t.mask (thash P w k)) c) (no_sign t.mask c _ rfl) (by omega)
      (fun d hd => by rw [at_ d]; exact inn (c + d) (by omega)) (by rw [at_, Nat.add_sub_cancel' h1]; exact out)
    rw [← hst] at G
    rcases G with ⟨d, i, g1, g2, _, _, g5⟩ | ⟨_, g2⟩
    · have g5' : t.probe (fun i => (es[i]?.map (·.1)).getD 0) (thash P w k) (st.getD (t.probeStart (thash P w k))) = some (.candidate _ i _) := g5
      rw [g5']
      dsimp only
      rw [hst, at_] at g2
      rw [hst, at_, at_]
      have hi : i < L.length := by
        have b := (List.getElem?_eq_some_iff.mp g2).1
        rwa [Array.length_toList, R.tb.sz] at b
      obtain ⟨p, hp⟩ : ∃ p, L[i]? = some p := ⟨_, List.getElem?_eq_getElem hi⟩
      have pm : p ∈ L := List.mem_of_getElem? hp
      have ne := new p pm
      have sl : t.slot (nth t.mask (org t.mask (thash P w k)) (c + d)).j = .live i := slot_live R.tb.up g2
      have rest : wpAny (model P w) A (searchRest a (.ref x) (thash P w k) true f es t (nth t.mask (org t.mask (thash P w k)) (c + d)).j i (nth t.mask (org t.mask (thash P w k)) (c + (d + 1)))) Q E s := by
        unfold searchRest
        rw [rows_at R.rs hp]
        refine wpAny_bind (wpAny_holding (wpAny_eqBool_tuple hu (R.tup p pm) hx ?_))
        refine wpAny_bind (wpAny_setState_of ho hd R.fits ?_)
        dsimp only
        rw [decide_eq_false ne]
        refine wp_if_neg nofun ?_
        first | refine wpAny_bind (wpAny_pure ?_) | skip
        rw [sameMem]
        simp only [sl, rows_at R.rs hp, if_true]
        refine wpAny_bind (wpAny_isSame_ref_self (wpAny_bind (wpAny_pure ?_)))
        simp only [if_true]
        refine wp_if_neg nofun ?_
        exact ih (c + (d + 1)) _ rfl (by omega) (by omega)
      by_cases hl : t.led = true
      · refine wp_if_neg (by rw [hl]; nofun) ?_
        first | refine wpAny_bind (wpAny_pure ?_) | skip
        exact rest
      · refine wp_if_pos (by rw [Bool.not_eq_true] at hl; rw [hl]; rfl) ?_
        refine wpAny_bind (seen_tup hx (fun y hy => ?_) (wp_if_neg nofun ?_))
        · obtain ⟨e, he, rfl⟩ := List.mem_map.mp hy
          rw [Array.mem_toList_iff, Array.mem_filter, ← Array.mem_toList_iff, R.rs] at he
          obtain ⟨p', hp', rfl⟩ := List.mem_map.mp he.1
          exact ⟨p'.2, p'.1, rfl, R.tup p' hp'⟩
        · first | refine wpAny_bind (wpAny_pure ?_) | skip
          exact rest
    · have g2' : t.probe (fun i => (es[i]?.map (·.1)).getD 0) (thash P w k) (st.getD (t.probeStart (thash P w k))) = some (.empty _ none) := g2
      rw [g2']
      dsimp only
      rw [hst, at_, Nat.add_sub_cancel' h1]
      exact wpAny_pure q
theorem look_new (R : Hold P w s.heap a L es ep t) {x : Addr} {k : List Int} (hx : IsT P w s.heap k x) (new : ∀ p ∈ L, p.2 ≠ k) (hu : A.units < cLine) {Q : SetFound → Shared → Prop}
    (q : ∀ j, j ∉ t.place.toList → Q (.free j false) s) : wpAny (model P w) A (setSearch a (.ref x) (thash P w k) true) Q E s := by
  have rm := R.room
  obtain ⟨K, k1, k2, k3⟩ := R.tb.first (by omega) (thash P w k)
  have m := R.tb.msk
  unfold Msk at m
  simp only [List.mem_cons, List.not_mem_nil, or_false] at m
  refine look R hx new hu k1 k2 k3 (q _ k2) 100000 0 none rfl (Nat.zero_le K) ?_
  unfold SetTable.turns at k1
  rcases m with e | e | e | e <;> omega
theorem widen {o : Obj} (ho : s.heap.get? a = some o) (hex : o.ExactSet) (hd : o.data = .set es ep t) (rs : es.toList = rowsOf P w L) (T : Tb t L.length) (le : L.length ≤ t.mask)
    (tup : ∀ p ∈ L, IsT P w s.heap p.2 p.1) (pl : t.plain = true) {wt M : Nat} (hw : SetTable.sizeAbove wt = M + 1) (hM : Msk M) (hn : L.length * 5 < M * 3) (few : L.length ≤ 200) {Q : Unit → Shared → Prop}
    (q : ∀ h' L' es' ep' t', Heap.SameBut a s.heap h' → Hold P w h' a L' es' ep' t' → L'.Perm L → Q () { s with heap := h' }) : wpAny (model P w) A (setRelay a wt) Q E s := by
  have sz := rows_size rs
  have hM' : M ≤ 511 := by
    have m := hM
    unfold Msk at m
    simp only [List.mem_cons, List.not_mem_nil, or_false] at m
    omega
  obtain ⟨t', od, e1, e2, e3, e4, _, e6⟩ := Tb.anew t (hs := es.map (·.1)) (wt := wt) (M := M) (by rw [hw]; rfl) hM (by rw [Array.size_map, sz]; omega)
  rw [Array.size_map, sz] at e2 e3
  obtain ⟨L2, r1, r2, _⟩ := order_rows L es od rs e2
  have s2 : (od.filterMap (es[·]?)).size = es.size := by rw [rows_size r1, r2.length_eq, sz]
  rw [setRelay_eq]
  refine wpAny_bind (wpAny_setState_of ho hd (sz ▸ T.fits le) ?_)
  dsimp only
  refine wp_if_neg (by rw [hw, sizeLine_eq]; omega) ?_
  first | refine wpAny_bind (wpAny_pure ?_) | skip
  rw [e1]
  dsimp only
  refine wpAny_bind (wp_if_neg (by rw [s2, bne_self_eq_false]; nofun) ?_)
  first | refine wpAny_bind (wpAny_pure ?_) | skip
  refine wpAny_pure (wpAny_storeSet_of ho hd ?_ (by rw [s2, sz, sizeLine_eq]; omega))
  have sb := Heap.SameBut.update s.heap a (Obj.putSet (od.filterMap (es[·]?)) t')
  refine q _ L2 _ (ep + 1) t' sb ⟨⟨_, store_at ho hd, ⟨hex.1, hex.2.1, hex.2.2⟩, rfl⟩, r1, r2.length_eq ▸ e3, fun p hp => isT_same (tup p (r2.mem_iff.mp hp)) ho hd sb, e6.trans pl, ?_⟩ r2
  rw [r2.length_eq, e4]
  exact hn
theorem full_at {n : Nat} (m : Msk t.mask) (few : n + 1 ≤ 200) (rm : n * 5 < t.mask * 3) (fl : (n + 1) * 5 ≥ t.mask * 3) : ∃ M, SetTable.sizeAbove (SetTable.grown (n + 1)) = M + 1 ∧ Msk M ∧ (n + 1) * 5 < M * 3 ∧ n + 1 ≤ t.mask := by
  unfold Msk at m
  simp only [List.mem_cons, List.not_mem_nil, or_false] at m
  obtain ⟨g1, g2, g3⟩ := grow_to
  rcases m with e | e | e | e <;> rw [e] at rm fl ⊢
  · obtain rfl : n = 4 := by omega
    exact ⟨31, g1, by unfold Msk; decide, by decide, by decide⟩
  · obtain rfl : n = 18 := by omega
    exact ⟨127, g2, by unfold Msk; decide, by decide, by decide⟩
  · obtain rfl : n = 76 := by omega
    exact ⟨511, g3, by unfold Msk; decide, by decide, by decide⟩
  · omega
theorem put_in (R : Hold P w s.heap a L es ep t) {x : Addr} {k : List Int} (hx : IsT P w s.heap k x) (new : ∀ p ∈ L, p.2 ≠ k) (hu : A.units < cLine) (few : L.length + 1 ≤ 200) {Q : Bool → Shared → Prop}
    (q : ∀ b h' L' es' ep' t', Heap.SameBut a s.heap h' → Hold P w h' a L' es' ep' t' → L'.Perm ((x, k) :: L) → Q b { s with heap := h' }) : wpAny (model P w) A (setAddHashed a (.ref x) (thash P w k)) Q E s := by
  obtain ⟨o, ho, hex, hd⟩ := R.ob
  have rm := R.room
  have sz := rows_size R.rs
  unfold setAddHashed
  refine wpAny_holding ?_
  show wpAny _ _ (setAddHashedIn a (.ref x) (thash P w k) (99999 + 1)) Q E s
  rw [setAddHashedIn_succ]
  refine wpAny_bind (wpAny_setState_of ho hd R.fits ?_)
  dsimp only
  refine wp_if_neg (by unfold byScan Value.scannable; nofun) ?_
  first | refine wpAny_bind (wpAny_pure ?_) | skip
  refine wpAny_bind (look_new R hx new hu fun j no => ?_)
  dsimp only
  refine wpAny_bind (wpAny_setState_of ho hd R.fits ?_)
  obtain ⟨p1, p2, p3, p4, p5, p6, p7⟩ := R.tb.put no
  generalize t.put j = tp at p1 p2 p3 p4 p5 p6 p7 ⊢
  obtain ⟨t1, at1⟩ := tp
  dsimp only at p1 p2 p3 p4 p5 p6 p7 ⊢
  have pl1 : t1.plain = true := p6.trans R.pln
  have pm := put_perm L at1 (x, k)
  have r1 : (SetTable.insertAt es at1 (thash P w k, Value.ref x)).toList = rowsOf P w (L.take at1 ++ (x, k) :: L.drop at1) := by
    rw [SetTable.toList_insertAt, R.rs, rows_put]
  generalize SetTable.insertAt es at1 (thash P w k, Value.ref x) = es1 at r1 ⊢
  generalize L.take at1 ++ (x, k) :: L.drop at1 = L1 at pm r1
  have n1 : L1.length = L.length + 1 := pm.length_eq
  refine wp_if_pos pl1 (wpAny_bind (hashBy_tup hx ?_))
  simp only [if_true]
  refine wpAny_bind (wpAny_storeSet_of ho hd ?_ (by rw [rows_size r1, n1, sizeLine_eq]; omega))
  have sb := Heap.SameBut.update s.heap a (Obj.putSet es1 t1)
  have ho1 := store_at (es' := es1) (t' := t1) ho hd
  generalize s.heap.update a (Obj.putSet es1 t1) = h1 at sb ho1 ⊢
  have tu : ∀ p ∈ L1, IsT P w h1 p.2 p.1 := fun p hp => by
    rcases List.mem_cons.mp (pm.mem_iff.mp hp) with rfl | hp
    · exact isT_same hx ho hd sb
    · exact isT_same (R.tup p hp) ho hd sb
  have ex1 : ({ o with data := .set es1 (ep + 1) t1 } : Obj).ExactSet := ⟨hex.1, hex.2.1, hex.2.2⟩
  by_cases fl : t1.tooFull = true
  · have fl2 : (L.length + 1) * 5 ≥ t1.mask * 3 := by
      have z := of_decide_eq_true fl
      rwa [p7] at z
    rw [p4] at fl2
    obtain ⟨M, m1, m2, m3, m4⟩ := full_at R.tb.msk few rm fl2
    refine wp_if_pos (by rw [fl]; rfl) (wpAny_bind ?_)
    rw [sz]
    refine widen (s := { s with heap := h1 }) ho1 ex1 rfl r1 (n1 ▸ p3) (by rw [n1, p4]; exact m4) tu pl1 m1 m2 (n1 ▸ m3) (by omega) fun h2 L2 es2 ep2 t2 sb2 R2 pm2 => ?_
    exact wpAny_pure (q true h2 L2 es2 ep2 t2 (sb.trans sb2) R2 (pm2.trans pm))
  · refine wp_if_neg (by rw [Bool.not_eq_true] at fl; rw [fl]; nofun) ?_
    refine (wpAny_pure (q true h1 L1 es1 (ep + 1) t1 sb ⟨⟨_, ho1, ex1, rfl⟩, r1, n1 ▸ p3, tu, pl1, ?_⟩ pm))
    have z := of_decide_eq_false (Bool.not_eq_true _ ▸ fl)
    rw [p7] at z
    rw [n1]
    omega
end
end TP
namespace TP
open PySem PySem.Spec PyProof.Rows L2
abbrev Keeps (h h' : Heap) : Prop := ∀ b o, h.get? b = some o → h'.get? b = some o
section
variable {P : Program} {w : World} {A : Around} {E : Value → Shared → Prop} {s : Shared}
abbrev bare (w : World) : Obj := { cls := .type "set", dict := none, data := .set #[] 0 (.fresh 0 0 (!w.params.followText "set-order")) }
theorem Hold.none {h : Heap} {a : Addr} (ho : h.get? a = some (bare w)) : Hold P w h a [] #[] 0 (.fresh 0 0 (!w.params.followText "set-order")) :=
  ⟨⟨_, ho, ⟨rfl, rfl, rfl⟩, rfl⟩, rfl, ⟨List.Pairwise.nil, rfl, rfl, List.mem_cons_self⟩, nofun, rfl, by show 0 < 7 * 3; decide⟩
theorem Hold.over {h h' : Heap} {a : Addr} {L : List (Addr × List Int)} {es : Array (Int × Value)} {ep : Nat} {t : SetTable} (R : Hold P w h a L es ep t) (ha : ∀ o, h.get? a = some o → h'.get? a = some o)
    (tu : ∀ p ∈ L, IsT P w h' p.2 p.1) : Hold P w h' a L es ep t :=
  ⟨let ⟨o, ho, r⟩ := R.ob; ⟨o, ha o ho, r⟩, R.rs, R.tb, tu, R.pln, R.room⟩
theorem fresh_key {ks L : List (Addr × List Int)} {i : Nat} {p : Addr × List Int} (nd : (ks.map (·.2)).Nodup) (hp : ks[i]? = some p) (pm : L.Perm (ks.take i)) : ∀ q ∈ L, q.2 ≠ p.2 := by
  intro q hq e
  obtain ⟨hi, ep⟩ := List.getElem?_eq_some_iff.mp hp
  obtain ⟨j, hj, ej⟩ := List.getElem_of_mem (pm.mem_iff.mp hq)
  rw [List.length_take] at hj
  rw [List.getElem_take] at ej
  have n := List.pairwise_iff_getElem.mp nd j i (by rw [List.length_map]; omega) (by rw [List.length_map]; exact hi) (by omega)
  rw [List.getElem_map, List.getElem_map, ej, ep] at n
  exact n e
theorem perm_next {ks L L' : List (Addr × List Int)} {i : Nat} {p : Addr × List Int} (hp : ks[i]? = some p) (pm : L.Perm (ks.take i)) (pm2 : L'.Perm (p :: L)) : L'.Perm (ks.take (i + 1)) := by
  rw [take_next hp]
  exact (pm2.trans (pm.cons p)).trans (List.perm_append_singleton p _).symm
theorem fill_up {I S : Addr} {fp wr : List Addr} {G : Array GenState → Array GenState → Prop} {n : Nat} {Pv : Nat → Value → Prop} {St : Nat → Shared → Prop} {R : Result → Shared → Prop}
    (W : WalksS P w A.in1 I fp wr G n Pv St) (Sf : S ∉ fp) {ks : List (Addr × List Int)} (hn : n = ks.length) (nd : (ks.map (·.2)).Nodup) (few : ks.length ≤ 200)
    (hv : ∀ i v, Pv i v → ∃ p, ks[i]? = some p ∧ v = .ref p.1) {h0 : Heap} (hk : ∀ p ∈ ks, IsT P w h0 p.2 p.1) (S0 : h0.get? S = .none) (w0 : ∀ b ∈ wr, h0.get? b = .none) (hu : A.in1.units < cLine) :
    ∀ (k i : Nat) (s : Shared), i + k = n → St i s → Keeps h0 s.heap → (∃ L es ep t, Hold P w s.heap S L es ep t ∧ L.Perm (ks.take i)) →
      (∀ s' L es ep t, Moved (S :: wr) G s s' → Hold P w s'.heap S L es ep t → L.Perm ks → Keeps h0 s'.heap → R (.ok (.ret .none)) s') →
      codeAny (model P w) A (.builtin "set.update.loop" ⟨[.ref S, .ref I], []⟩) R s := by
  have Sw : S ∉ wr := fun c => Sf (W.sub S c)
  have far : ∀ {a b : Shared}, Moved wr G a b → Keeps h0 a.heap → Keeps h0 b.heap := fun m kp b o e =>
    m.heap b o (fun c => by rw [w0 b c] at e; cases e) (kp b o e)
  have wide : ∀ b ∈ wr, b ∈ S :: wr := fun _ c => List.mem_cons_of_mem S c
  intro k
  induction k with
  | zero =>
    rintro i s hi st kp ⟨L, es, ep, t, H, pm⟩ fin
    obtain rfl : i = n := hi
    refine codeAny_builtin F.entry_set_update_loop ?_
    rw [Around.under_plainId F.plain_set_update_loop]
    refine wpAny_bind (m := pyNext (.ref I)) (W.done s _ _ st fun s' mv => ?_)
    rw [hn, List.take_length] at pm
    refine wpAny_pure (fin s' L es ep t (mv.mono wide) (H.over (fun o e => mv.heap S o Sw e) fun p hp => ?_) pm (far mv kp))
    exact isT_keep (hk p (pm.mem_iff.mp hp)) (far mv kp)
  | succ k ih =>
    rintro i s hi st kp ⟨L, es, ep, t, H, pm⟩ fin
    refine codeAny_builtin F.entry_set_update_loop ?_
    rw [Around.under_plainId F.plain_set_update_loop]
    refine wpAny_bind (m := pyNext (.ref I)) (W.item i s _ _ (by omega) st fun v s' pv st' mv => ?_)
    obtain ⟨p, hp, rfl⟩ := hv i v pv
    have kp' := far mv kp
    have tu : ∀ q ∈ ks, IsT P w s'.heap q.2 q.1 := fun q hq => isT_keep (hk q hq) kp'
    have H' := H.over (h' := s'.heap) (fun o e => mv.heap S o Sw e) fun q hq => tu q (List.mem_of_mem_take (pm.mem_iff.mp hq))
    have pt := tu p (List.mem_of_getElem? hp)
    have lL : L.length + 1 ≤ 200 := by
      have z := pm.length_eq
      have y := (List.getElem?_eq_some_iff.mp hp).1
      rw [List.length_take] at z
      omega
    refine wpAny_bind (m := holding [Value.ref p.1] (setAdd S (.ref p.1))) (wpAny_holding ?_)
    unfold setAdd
    refine wpAny_holding (wpAny_bind (wpAny_pyHash_tuple hu pt ?_))
    refine put_in (s := { s' with toks := s'.toks + (p.2.length + 1) }) H' pt (fresh_key nd hp pm) hu lL fun b h' L' es' ep' t' sb H2 pm2 => ?_
    have kp2 : Keeps h0 h' := fun b o e => (sb.2 b fun c => by rw [c, S0] at e; cases e).trans (kp' b o e)
    have st2 := W.frame (i + 1) s' h' (s'.toks + (p.2.length + 1)) st' (Nat.le_add_right _ _) fun b hb o e => by
      rw [sb.2 b fun c => Sf (c ▸ hb)]
      exact e
    refine wpAny_pure ⟨plainId_quiet F.plain_set_update_loop _, ih (i + 1) _ (by omega) st2 kp2 ⟨L', es', ep', t', H2, perm_next hp pm pm2⟩ fun s'' L2 es2 ep2 t2 mv2 H3 pm3 kp3 => ?_⟩
    refine fin s'' L2 es2 ep2 t2 (.trans W.gtrans ((mv.mono wide).then_heap (Nat.le_add_right _ _) fun b o hb e => ?_) mv2) H3 pm3 kp3
    rw [sb.2 b fun c => hb (by rw [c]; exact List.mem_cons_self)]
    exact e
theorem set_of {l : Addr} {items : Array Value} {ks : List (Addr × List Int)} {Q : Value → Shared → Prop} (hh : A.handled = .none) (hl : s.heap.IsList l items) (hit : items.toList = ks.map fun p => Value.ref p.1)
    (hk : ∀ p ∈ ks, IsT P w s.heap p.2 p.1) (nd : (ks.map (·.2)).Nodup) (few : ks.length ≤ 200) (hu : A.units + 3 < cLine)
    (h : ∀ (h' : Heap) (tk : Nat) L es ep t, Hold P w h' s.heap.objs.size L es ep t → L.Perm ks → Keeps s.heap h' → Q (.ref s.heap.objs.size) { s with heap := h', toks := tk }) :
    wpAny (model P w) A (call (.type "set") [.ref l]) Q E s := by
  have sz : items.size = ks.length := by rw [← Array.length_toList, hit, List.length_map]
  obtain ⟨_, _, m0⟩ := F.called_set.mro
  have m1 := F.called_set.made
  have m2 := F.called_set.sub
  have m3 := F.called_set.notType
  have m4 := F.called_set.canCreate
  have m5 := F.typeCall_set_1 (.ref l)
  refine wpAny_call (codeAny_of_tree ?_)
  refine wpAny_pure (Q := fun _ _ => _) ⟨Code.quiet_builtin _ (by decide +kernel), codeAny_builtin F.entry_type_call ?_⟩
  rw [Around.under_plain (weight_type_call_type "set" [.ref l] []) rfl]
  repeat any_goals first | assumption | wp_step
  refine codeAny_mono (code_set_led1 (.ref l) (E := E) (Q₁ := fun b s₁ => b = .ref s.heap.objs.size ∧ s₁ = { s with heap := s.heap.push (bare w) }) ⟨rfl, rfl⟩) fun r s₁ hr => ?_
  obtain e | fl := r
  · exact hr
  cases fl with
  | ret b =>
    obtain ⟨rfl, rfl⟩ := hr
    have gS : (s.heap.push (bare w)).get? s.heap.objs.size = some (bare w) := Heap.get?_push_size _ rfl
    have tS : Shared.TypeIs { s with heap := s.heap.push (bare w) } (.ref s.heap.objs.size) "set" := ⟨_, gS, rfl⟩
    have i1 := F.called_set.init.lookup
    have i2 := F.called_set.init.bind (.ref s.heap.objs.size)
    repeat any_goals first | assumption | wp_step
    refine codeAny_mono (codeAny_call_builtin (R := wants (fun r s₂ => r = Value.none ∧ ∃ h' tk L es ep t, s₂ = { s with heap := h', toks := tk } ∧ Hold P w h' s.heap.objs.size L es ep t ∧ L.Perm ks ∧ Keeps s.heap h') E)
      F.called_set.init.plain F.entry_set_init (check_set_init_1 tS ?_)) fun r₂ s₂ hr₂ => ?_
    · obtain ⟨⟨oc, od, oda, osl⟩, ol, oc', n, od'⟩ := hl
      dsimp only at oc' od'
      subst oc' od'
      have ll : l < s.heap.objs.size := Heap.lt_size ol
      have gl : (s.heap.push (bare w)).get? l = some ⟨.type "list", od, .seq items n, osl⟩ := Heap.get?_push_of_some _ ol
      have nl : (s.heap.push (bare w)).IsList l items := ⟨_, gl, rfl, n, rfl⟩
      have u1 := F.sub_list_set
      have u2 := F.sub_list_frozenset
      have u3 : (Value.type "list" == Value.type "dict") = false := by decide
      unfold Builtin.«set.__init__» noKeywords Builtin.Frozenset.updateFrom
      generalize hq : pyIter = it
      wp_walk
      subst hq
      refine wpAny_pyIter_list nl (wpAny_bind (wpAny_runValue ?_))
      have e3 : A.in1.in1.in1.handled = .none := by simp [hh]
      have z1 : (s.heap.push (bare w)).objs.size = s.heap.objs.size + 1 := Heap.size_push ..
      have ne : l ≠ (s.heap.push (bare w)).objs.size := by rw [z1]; exact Nat.ne_of_lt (Nat.lt_succ_of_lt ll)
      have gone : ∀ b, s.heap.objs.size ≤ b → s.heap.get? b = .none := fun b hb => by
        cases q : s.heap.get? b with
        | none => rfl
        | some o => exact absurd (Heap.lt_size q) (Nat.not_lt.mpr hb)
      have hv : ∀ (i : Nat) (v : Value), items[i]? = some v → ∃ p, ks[i]? = some p ∧ v = .ref p.1 := fun i v q => by
        rw [← Array.getElem?_toList, hit, List.getElem?_map, Option.map_eq_some_iff] at q
        exact q.imp fun _ z => ⟨z.1, z.2.symm⟩
      refine fill_up ((Walks.list e3 _ l ne items).toS) ?_ sz nd few hv hk (gone s.heap.objs.size (Nat.le_refl _)) (fun b hb => gone b ?_) hu items.size 0 _ (Nat.zero_add _)
        ⟨⟨_, Heap.get?_push_size _ rfl, rfl, rfl⟩, nl.push _⟩ (fun b o e => Heap.get?_push_of_some _ (Heap.get?_push_of_some _ e)) ⟨[], #[], 0, _, Hold.none (Heap.get?_push_of_some _ gS), List.Perm.refl _⟩ fun s' L es ep t mv H pm kp => ?_
      · rw [z1, List.mem_cons, List.mem_singleton]
        exact fun c => c.elim (Nat.ne_of_lt (Nat.lt_succ_self _)) (Nat.ne_of_gt ll)
      · rw [List.mem_singleton.mp hb, z1]
        omega
      · obtain ⟨h', g', d', tk, o'⟩ := s'
        obtain rfl : g' = s.gens := mv.gens
        obtain rfl : d' = s.drawn := mv.drawn
        obtain rfl : o' = s.os := mv.os
        refine wpAny_pure (wpAny_pure ?_)
        exact ⟨rfl, h', tk, L, es, ep, t, rfl, H, pm, kp⟩
    · obtain e | fl := r₂
      · exact hr₂
      cases fl with
      | ret v =>
        obtain ⟨rfl, h', tk, L, es, ep, t, rfl, H, pm, kp⟩ := hr₂
        repeat any_goals first | assumption | wp_step
        exact h h' tk L es ep t H pm kp
      | _ => exact hr₂.elim
  | _ => exact hr.elim
end
end TP
namespace DL
open PySem L2 PyProof.Rows
def rSortQ (K : PySem.W.Frag) : List V → Hp → VK → Prop := fun vs H Q => ∃ (a : Addr) (xs : List V), (vs = [V.ref a] ∧ SqL K H a xs) ∧ (∀ x ∈ xs, ∃ p : P2, TupI K H x [p.1, p.2]) ∧
  ∀ (ys : List V) (q : Addr), ys.Perm xs → ys.Pairwise (fun x y => ∀ n m : P2, TupI K H x [n.1, n.2] → TupI K H y [m.1, m.2] → lexLe n m) → H q = none → Q (.ref q) (upd H q (.lst ys))
theorem pr_one {h : Heap} {v : Value} {p q : P2} (a : Srt.IsPair h v p.1 p.2) (b : Srt.IsPair h v q.1 q.2) : p = q := by
  obtain ⟨t, o, t1, t2, n, rfl, ho, _, hd⟩ := a
  obtain ⟨t', o', u1, u2, n', e, ho', _, hd'⟩ := b
  cases e
  rw [ho] at ho'
  cases ho'
  rw [hd] at hd'
  have e := (Data.seq.inj hd').1
  have e := congrArg Array.toList e
  have e1 := (Value.int.inj (List.cons.inj e).1).1
  have e2 := (Value.int.inj (List.cons.inj (List.cons.inj e).2).1).1
  exact Prod.ext e1 e2
section
variable {X : Cx}
theorem pr_of {pins : List (Addr × Obj)} {σ : L2.St} {H : Hp} {s : Shared} {t : Addr} {p : P2} (I : Inv X pins σ H s) (h : SqT X.K H t (([p.1, p.2] : List Int).map V.int)) : Srt.IsPair s.heap (.ref t) p.1 p.2 := by
  obtain ⟨its, rv, it, _⟩ := I.tuple h
  cases rv with
  | cons r1 rv =>
    cases rv with
    | cons r2 rv =>
      cases rv
      obtain ⟨t1, rfl⟩ := r1
      obtain ⟨t2, rfl⟩ := r2
      obtain ⟨o, ho, hc, n, hd⟩ := it
      exact ⟨t, o, t1, t2, n, rfl, ho, hc, hd⟩
theorem cr_sortQ : CallR X (.builtin "sorted") (rSortQ X.K) := by
  intro pins s σ H vs us Q I r h
  obtain ⟨a, xs, ⟨rfl, hs⟩, hx, q⟩ := h
  obtain ⟨its, rv, hl, hz⟩ := I.list hs
  rw [Vals.ref1 r]
  obtain ⟨e1, e2⟩ := refs_back rv fun x m => by
    obtain ⟨p, t, e, _⟩ := hx x m
    exact ⟨t, e⟩
  classical
  obtain ⟨k, hk⟩ : ∃ k : Value → P2, ∀ v (p : P2), Srt.IsPair s.heap v p.1 p.2 → k v = p := by
    refine ⟨fun v => if g : ∃ p : P2, Srt.IsPair s.heap v p.1 p.2 then g.choose else (0, 0), fun v p g => ?_⟩
    have gg : ∃ p : P2, Srt.IsPair s.heap v p.1 p.2 := ⟨p, g⟩
    show (if g : ∃ p : P2, Srt.IsPair s.heap v p.1 p.2 then g.choose else (0, 0)) = p
    rw [dif_pos gg]
    exact pr_one gg.choose_spec g
  have two : ∀ v ∈ its, Srt.IsPair s.heap v (k v).1 (k v).2 := fun v hv => by
    obtain ⟨t, rfl⟩ := e2 v hv
    obtain ⟨p, t', e, ht⟩ := hx (.ref t) (by rw [e1]; exact List.mem_map.mpr ⟨_, hv, rfl⟩)
    cases e
    have g := pr_of I ht
    rw [hk _ _ g]
    exact g
  refine SrtO.sorted_pairsO (k := k) hl.isList (by rw [← rv.length]; exact hz) two fun h' d out g1 g2 kp hd gd => ?_
  obtain ⟨n, hn⟩ := gd
  have back : ∀ u ∈ out, ∃ a, u = Value.ref a := fun u hu => e2 u (g2.perm.mem_iff.mp hu)
  have pm : (out.map backV).Perm xs := by
    rw [e1]
    exact g2.perm.map _
  have pw : (out.map backV).Pairwise fun x y => ∀ n m : P2, TupI X.K H x [n.1, n.2] → TupI X.K H y [m.1, m.2] → lexLe n m := by
    rw [List.pairwise_map]
    refine List.Pairwise.imp (fun {u v} g n m hn hm => ?_) g1
    obtain ⟨t, et, ht⟩ := hn
    obtain ⟨t', et', ht'⟩ := hm
    have eu : u = .ref t := by cases u <;> first | (cases et; rfl) | cases et
    have ev : v = .ref t' := by cases v <;> first | (cases et'; rfl) | cases et'
    subst eu ev
    have g : SrtO.lexB (k (.ref t')) (k (.ref t)) = false := g
    rw [hk _ _ (pr_of I ht), hk _ _ (pr_of I ht')] at g
    have g := SrtO.lexB_no.mp g
    unfold lexLe
    omega
  refine ⟨.ref d, upd H d (.lst (out.map backV)), I.laid (t' := s.toks) kp hd ⟨?_, out, n, vals_back back, hn⟩, rfl, q _ _ pm pw (I.hok.fresh hd)⟩
  rw [pm.length_eq]
  exact hz
end
section
variable {X : Cx} {K : PySem.W.Frag} {F H : Hp}
def bSortQ : FN
  | [.list xs], k => ∃ ps : List P2, xs = ps.map prI ∧ ∀ qs : List P2, qs.Perm ps → qs.Pairwise lexLe → k (.list (qs.map prI))
  | _, _ => False
theorem ok_sortQ : BiOk K bSortQ (rSortQ K) := by
  intro F H vs xs k Q s d h c
  unfold bSortQ at h
  split at h
  · obtain ⟨v, rfl, d1⟩ := d.one
    obtain ⟨ps, rfl, h⟩ := h
    obtain ⟨a, us, rfl, q, d3⟩ := d1.lst s
    refine ⟨a, us, ⟨rfl, rdSq q⟩, fun x hx => ?_, fun ys p hp hpw hf => ?_⟩
    · obtain ⟨i, hi⟩ := List.mem_iff_getElem?.mp hx
      obtain ⟨e, he, de⟩ := d3.get' hi
      rw [List.getElem?_map] at he
      obtain ⟨p, _, rfl⟩ := Option.map_eq_some_iff.mp he
      exact ⟨p, df_pair s de⟩
    · obtain ⟨qs, hq, dq⟩ := dfa_perm hp.symm d3
      have pw := pw_pairs (P := fun _ => True) (fun x y p q dx dy _ _ hr => hr _ _ (df_pair s dx) (df_pair s dy)) (fun _ _ => trivial) dq hpw
      have g := Grow.frozen s hf (.lst ys)
      exact c _ _ _ _ (h qs hq pw) g (.lst (.inl upd_same) (dq.mono g.ff))
  · exact False.elim h
end
section
variable {X : Cx} {K : PySem.W.Frag} {F H : Hp} {e : Expr} {pos p p2 q : Pos} {tt : TAd} {σ : L2.St}
def bLenSetP : FN
  | [.list xs], k => ∃ ps : List P2, xs = ps.map prI ∧ ps.length ≤ 200 ∧ ps.Nodup ∧ k (.int (ps.length : Nat))
  | _, _ => False
def tSetLenP (K : PySem.W.Frag) (ta : TA) : TE := fun σ H Q => ta σ H fun vs H1 => ∃ (l : Addr) (ks : List (Addr × List Int)), (vs = [.ref l] ∧ SqL K H1 l (ks.map fun p => V.ref p.1)) ∧ (∀ p ∈ ks, SqT K H1 p.1 (p.2.map V.int)) ∧
  (ks.length ≤ 200 ∧ (ks.map (·.2)).Nodup) ∧ Q (.int (ks.length : Nat)) H1
theorem pe_setLenP {ta : TA} (hu : X.A.units + 64 < cLine) (hc : X.calm = true) (hg : Gl X "len") (hm : X.mg "len" = none) (hg2 : Gl X "set") (hm2 : X.mg "set" = none) (ha : PA X [e] ta)
    (he : starEach [e] X.env = [(false, eval e X.env)] := by rfl) : PE X (.Call (.Name "len" p) [.Call (.Name "set" p2) [e] [] q] [] pos) (tSetLenP X.K ta) := ⟨fun pins st σ H Q I h => by
  refine Call_ (ld_blt I hg hm boot_len ?_)
  refine callWith_builtin1 (args_cons ?_ rfl) rfl rfl
  refine Call_ (ld_blt I hg2 hm2 boot_set (callWith_type1 (thn (ha.run q pins st σ H _ I h) fun us s1 ⟨vs, H1, I1, r1, l, ks, ⟨e1, hq⟩, hk, ⟨hn, nd⟩, k⟩ => ?_) he rfl))
  subst e1
  cases r1 with
  | cons r rr =>
    cases rr
    cases r
    obtain ⟨its, rv, pl, hz⟩ := I1.list hq
    refine TP.set_of (P := X.prog) (w := X.w) (ks := ks) (I1.ok.hd hc) pl.isList (by simpa using refs_of_vals rv) (fun p hp => I1.isT (hk p hp)) nd hn (by omega) fun h' tk L es ep t R pm kp => args_nil ?_
    have sz : es.size = ks.length := (TP.rows_size R.rs).trans pm.length_eq
    have ft := R.fits
    obtain ⟨o, ho, hex, hd⟩ := R.ob
    have I2 : Inv X pins σ H1 { s1 with heap := h', toks := tk } := I1.kept kp
    exact call_len_set ho hex hd ft (by rw [sz]; omega) ⟨.int _, H1, I2.tok _, ⟨_, by rw [sz]⟩, k⟩⟩
theorem LD.lenSetP [Pn] (hu : X.A.units + 64 < cLine) (hc : X.calm = true) (hg : Gl X "len") (hm : X.mg "len" = none) (hg2 : Gl X "set") (hm2 : X.mg "set" = none) (ha : LA X [e] tt)
    (he : starEach [e] X.env = [(false, eval e X.env)] := by rfl) : LD X (.Call (.Name "len" p) [.Call (.Name "set" p2) [e] [] q] [] pos) (dBi bLenSetP tt) :=
  ⟨peImp (pe_setLenP hu hc hg hm hg2 hm2 ha.p he) fun σ H Q ⟨G, ρ, F, Q', R, h, c⟩ => ⟨G, ρ, F, _, R, h, fun as ρ1 vs H1 F1 h1 hl R1 s1 av => by
    obtain ⟨xs, h2, d⟩ := resA_dr R1 av h1
    unfold bLenSetP at h2
    split at h2
    · obtain ⟨v, rfl, d1⟩ := d.one
      obtain ⟨ps, rfl, hn, nd, k⟩ := h2
      obtain ⟨a, us, rfl, hq, d3⟩ := d1.lst R1.fh
      obtain ⟨ks, e1, e2, e3⟩ := ks_of d3
      have kl : ks.length = ps.length := by
        have z := congrArg List.length e2
        rwa [List.length_map, List.length_map] at z
      rw [e1] at hq
      refine ⟨a, ks, ⟨rfl, rdSq hq⟩, fun p hp => seqT R1.fh (e3 p hp), ⟨kl ▸ hn, ?_⟩, c _ _ _ _ _ (kl ▸ k) R1 s1 (.int _)⟩
      rw [e2]
      refine List.pairwise_map.mpr (List.Pairwise.imp (fun {a b} ne z => ne ?_) nd)
      exact Prod.ext (List.cons.inj z).1 (List.cons.inj (List.cons.inj z).2).1
    · exact False.elim h2⟩⟩
end
end DL
namespace DL
open PySem L2 PyProof.Rows
def Dk (b : Nat) (dk : List PD) : Prop := ∃ (ns : List Int) (a e c : Int), dk = [.list (ns.map .int), .int a, .int e, .int c] ∧ 0 ≤ c ∧ c + b ≤ 2 ^ 40
def S_draw : FSpec := ⟨fun args Q => ∃ (b : Nat) (dk : List PD) (many : Int), args = [.ls (some 0) dk, .d (.int many)] ∧ Dk (b + 1) dk ∧ (0 < many ∧ many.natAbs.log2 < 8000) ∧ ∀ r dk', 0 ≤ r → r < many → Dk b dk' → Q (.d (.int r)) [.ls (some 0) dk']⟩
theorem Dk.mono {b c : Nat} {dk : List PD} (h : Dk b dk) (hc : c ≤ b) : Dk c dk := by
  obtain ⟨ns, a, e, d, rfl, h0, h1⟩ := h
  exact ⟨ns, a, e, d, rfl, h0, by omega⟩
abbrev N_law_draw_a51a : List Str := ["deck", "many", "found", "cell", "mixed"]
def ir_law_draw_a51a : TSt :=
  (sSeq (sSetL 0 (.e (dC (.int 3))) (dBin bAdd (.e (dBin bIx (.s 0) (.e (dC (.int 3))))) (.e (dC (.int 1)))))
    (sSeq (sIf (tVal (dBin cGt (.e (dBin bIx (.s 0) (.e (dC (.int 2))))) (.e (dC (.int 0))))) (sSeq (sAsg 2 (fD (dBin bMod (.e (dBi bInt (aCons (.e (dBin bIx (.s 0) (.e (dC (.int 2))))) aNil))) (.s 1))))
    (sSeq (sSetL 0 (.e (dC (.int 2))) (dBin bFdiv (.e (dBin bIx (.s 0) (.e (dC (.int 2))))) (.s 1)))
    (sRetV 2))) sNext)
    (sSeq (sAsg 3 (fD (dC (.int 47))))
    (sSeq (sIf (tVal (dBin cNe (.e (dBin bIx (.s 0) (.e (dC (.int 0))))) (.e (dFz (fLst aNil))))) (sAsg 3 (fD (dBin bIx (.e (dBin bIx (.s 0) (.e (dC (.int 0))))) (.e (dBin bMod (.e (dBi bInt (aCons (.e (dBin bIx (.s 0) (.e (dC (.int 1))))) aNil))) (.e (dBi bLen (aCons (.e (dBin bIx (.s 0) (.e (dC (.int 0))))) aNil)))))))) sNext)
    (sSeq (sSetL 0 (.e (dC (.int 1))) (dBin bAdd (.e (dBin bIx (.s 0) (.e (dC (.int 1))))) (.e (dC (.int 1)))))
    (sSeq (sIf (tAndD (tVal (dBin cGe (.e (dBi bAbs (aCons (.s 3) aNil))) (.e (dBin bPow (.e (dC (.int 10))) (.e (dC (.int 18))))))) (tVal (dBin cLe (.e (dBin bIx (.s 0) (.e (dC (.int 1))))) (.e (dBi bLen (aCons (.e (dBin bIx (.s 0) (.e (dC (.int 0))))) aNil)))))) (sSeq (sSetL 0 (.e (dC (.int 2))) (dBin bFdiv (.e (dBi bAbs (aCons (.s 3) aNil))) (.s 1)))
    (sRet (fD (dBin bMod (.e (dBi bInt (aCons (.e (dBi bAbs (aCons (.s 3) aNil))) aNil))) (.s 1))))) sNext)
    (sSeq (sAsg 4 (fD (dBin bMod (.e (dBin bPow (.e (dBi bInt (aCons (.e (dBin bAdd (.e (dBin bMod (.e (dBi bInt (aCons (.s 3) aNil))) (.e (dC (.int 2147483587))))) (.e (dBin bMulI (.e (dC (.int 67280423))) (.e (dBin bIx (.s 0) (.e (dC (.int 3))))))))) aNil))) (.e (dC (.int 5))))) (.e (dC (.int 2147483629))))))
    (sSeq (sAsg 4 (fD (dBin bMod (.e (dBin bPow (.e (dBi bInt (aCons (.e (dBin bAdd (.e (dBin bMulI (.s 4) (.e (dBin bAdd (.e (dBin bMulI (.e (dC (.int 2))) (.e (dBin bIx (.s 0) (.e (dC (.int 3))))))) (.e (dC (.int 3))))))) (.e (dC (.int 7919))))) aNil))) (.e (dC (.int 3))))) (.e (dC (.int 2147483563))))))
    (sRet (fD (dBin bMod (.e (dBin bFdiv (.s 4) (.e (dC (.int 32))))) (.s 1))))))))))))
theorem sp_draw : ∀ args Q, S_draw.sp args Q → ir_law_draw_a51a (endsOf args Q) (rho0 N_law_draw_a51a args) := by
  rintro args Q ⟨b, dk, many, rfl, ⟨ns, a, e, c, rfl, h0, h1⟩, ⟨m0, m1⟩, q⟩
  have L : (ns.map PyData.int).length = ns.length := List.length_map _
  have fin : ∀ (dk' : List PD) (r : Int), Dk b dk' → Q (.d (.int (r % many))) [.ls (some 0) dk'] := fun dk' r z => q _ _ (Int.emod_nonneg _ (by omega)) (Int.emod_lt_of_pos _ m0) z
  have dko : ∀ a' e', Dk b [.list (ns.map .int), .int a', .int e', .int (c + 1)] := fun a' e' => ⟨ns, a', e', _, rfl, by omega, by omega⟩
  have nn : ∀ x : Int, (x % 2147483587 + 67280423 * (c + 1)).natAbs < 2 ^ 70 := fun x => by
    have a1 := Int.emod_lt_of_pos x (b := 2147483587) (by decide)
    have a2 := Int.emod_nonneg x (b := 2147483587) (by decide)
    omega
  have nm : ∀ x : Int, (x % 2147483629 * (2 * (c + 1) + 3) + 7919).natAbs < 2 ^ 80 := fun x => by
    have a1 := Int.emod_lt_of_pos x (b := 2147483629) (by decide)
    have a2 := Int.emod_nonneg x (b := 2147483629) (by decide)
    have a3 : x % 2147483629 * (2 * (c + 1) + 3) ≤ 2147483629 * (2 ^ 42) := Int.mul_le_mul (by omega) (by omega) (by omega) (by decide)
    have a4 : 0 ≤ x % 2147483629 * (2 * (c + 1) + 3) := Int.mul_nonneg a2 (by omega)
    omega
  have ab : ∀ x : Int, 0 ≤ (if x < 0 then -x else x) := fun x => by split <;> omega
  have tt : ∀ {x : Int}, x < 2147483629 → 0 ≤ x → x.natAbs < 2 ^ 32 := fun h1 h2 => by omega
  -- deck[3] = deck[3] + 1
  refine ⟨_, rfl, 3, rfl, ?_⟩
  -- deck[2] > 0
  refine ⟨_, rfl, fun g => ?_, fun g => ?_⟩
  · refine ⟨_, rfl, m0, _, rfl, ⟨m0, by omega⟩, 2, rfl, ?_⟩
    exact fin _ _ (dko _ _)
  refine ⟨_, rfl, (Shp.list (n := 0) (Shp.ints ns)).shp, ⟨rfl, rfl⟩, fun g2 => ?_, fun g2 => ?_⟩
  · have hl : 0 < ns.length := by
      cases ns with
      | nil => simp [eqv_nil, Lc.pd] at g2
      | cons x r => simp
    obtain ⟨cell, e1, e2⟩ := atI_some (xs := ns.map PyData.int) (i := a % ((ns.map PyData.int).length : Int)) (Int.emod_nonneg _ (by omega)) (Int.emod_lt_of_pos _ (by omega))
    rw [List.getElem?_map] at e2
    obtain ⟨cell, e3, rfl⟩ := Option.map_eq_some_iff.mp e2
    refine ⟨_, rfl, _, rfl, _, rfl, by rw [L]; omega, _, e1, _, rfl, 1, rfl, ?_⟩
    refine ⟨powOk (k := 4) (m := 18) (by decide) (by decide) (by decide), fun g3 => ⟨_, rfl, _, rfl, fun g4 => ?_, fun g4 => ?_⟩, fun g3 => ⟨nofun, fun g4 => ?_⟩⟩
    · exact ⟨⟨m0, by omega⟩, 2, rfl, m0, fin _ _ (dko _ _)⟩
    all_goals
      refine ⟨by decide, _, rfl, mulOk 30 50 (by decide) (by omega), powOk (k := 70) (m := 5) (nn _) (by decide) (by decide), by decide, _, rfl, mulOk 2 50 (by decide) (by omega), mulOk 32 50 ?_ (by omega), powOk (k := 80) (m := 3) (nm _) (by decide) (by decide), by decide, ⟨by decide, by decide⟩, m0, fin _ _ (dko _ _)⟩
      have a1 := Int.emod_lt_of_pos ((cell % 2147483587 + 67280423 * (c + 1)) ^ 5) (b := 2147483629) (by decide)
      have a2 := Int.emod_nonneg ((cell % 2147483587 + 67280423 * (c + 1)) ^ 5) (b := 2147483629) (by decide)
      exact tt a1 a2
  · refine ⟨_, rfl, 1, rfl, ?_⟩
    refine ⟨powOk (k := 4) (m := 18) (by decide) (by decide) (by decide), fun g3 => ⟨_, rfl, _, rfl, fun g4 => ?_, fun g4 => ?_⟩, fun g3 => ⟨nofun, fun g4 => ?_⟩⟩
    · exact ⟨⟨m0, by omega⟩, 2, rfl, m0, fin _ _ (dko _ _)⟩
    all_goals
      refine ⟨by decide, _, rfl, mulOk 30 50 (by decide) (by omega), powOk (k := 70) (m := 5) (nn _) (by decide) (by decide), by decide, _, rfl, mulOk 2 50 (by decide) (by omega), mulOk 32 50 ?_ (by omega), powOk (k := 80) (m := 3) (nm _) (by decide) (by decide), by decide, ⟨by decide, by decide⟩, m0, fin _ _ (dko _ _)⟩
      have a1 := Int.emod_lt_of_pos ((47 % 2147483587 + 67280423 * (c + 1)) ^ 5) (b := 2147483629) (by decide)
      have a2 := Int.emod_nonneg ((47 % 2147483587 + 67280423 * (c + 1)) ^ 5) (b := 2147483629) (by decide)
      exact tt a1 a2
def S_one : FSpec := ⟨fun args Q => ∃ (b : Nat) (dk xs : List PD), args = [.ls (some 0) dk, .d (.list xs)] ∧ Dk (b + 1) dk ∧ (0 < xs.length ∧ xs.length < 2 ^ 60) ∧ ∀ x dk', x ∈ xs → Dk b dk' → Q (.d x) [.ls (some 0) dk']⟩
abbrev N_law_one_90da : List Str := ["deck", "items"]
def ir_law_one_90da (S_law_draw_a51a : FSpec) : TSt :=
  (sRet (fD (dBin bIx (.s 1) (.e (dFz (fCall S_law_draw_a51a (aCons (.s 0) (aCons (.e (dBi bLen (aCons (.s 1) aNil))) aNil))))))))
theorem sp_one : ∀ args Q, S_one.sp args Q → ir_law_one_90da S_draw (endsOf args Q) (rho0 N_law_one_90da args) := by
  rintro args Q ⟨b, dk, xs, rfl, h1, ⟨h2, h3⟩, q⟩
  have hl : ((xs.length : Nat) : Int).natAbs.log2 < 8000 := by
    have := (Nat.log2_lt (n := xs.length) (k := 60) (by omega)).mpr h3
    rw [Int.natAbs_natCast]; omega
  refine ⟨rfl, b, dk, (xs.length : Nat), rfl, h1, ⟨by omega, hl⟩, fun r dk' h4 h5 h6 => ?_⟩
  obtain ⟨x, e1, e2⟩ := atI_some (xs := xs) h4 h5
  exact ⟨x, e1, q x dk' (List.mem_of_getElem? e2) h6⟩
def S_deck : FSpec := ⟨fun args Q => ∃ ns : List Int, args = [.sc (ns.map .int)] ∧ ns.length ≤ 63 ∧ ∀ dk, Dk (2 ^ 40) dk → Q (.ls none dk) []⟩
abbrev N_law_deck_91e6 : List Str := ["script"]
def ir_law_deck_91e6 : TSt :=
  (sRet (fLst (aCons (.e (dFz (fList (aCons (.e (dSlS 0 pNone (pSome (.e (dC (.int 63)))))) aNil)))) (aCons (.e (dC (.int 0))) (aCons (.e (dC (.int 0))) (aCons (.e (dC (.int 0))) aNil))))))
theorem cut_ints (ns : List Int) (a b : Option Int) : ∃ ms : List Int, cutD (ns.map PyData.int) a b = ms.map PyData.int := by
  unfold cutD
  rw [← List.map_drop, ← List.map_take]
  exact ⟨_, rfl⟩
theorem sp_deck : ∀ args Q, S_deck.sp args Q → ir_law_deck_91e6 (endsOf args Q) (rho0 N_law_deck_91e6 args) := by
  rintro args Q ⟨ns, rfl, h1, q⟩
  obtain ⟨ms, e⟩ := cut_ints ns none (some 63)
  refine .inl (q _ ⟨ms, 0, 0, 0, ?_, by decide, by decide⟩)
  rw [← e]; rfl
end DL
namespace DL
open PySem L2 PyProof.Rows
inductive FT where
  | int (i : Int)
  | x
  | y
  | add (a b : FT)
  | sub (a b : FT)
  | mul (a b : FT)
  | pow (a : FT) (n : Nat)
def FT.pd : FT → PD
  | int i => .int i
  | x => .str "x"
  | y => .str "y"
  | add a b => .tuple [.str "add", a.pd, b.pd]
  | sub a b => .tuple [.str "sub", a.pd, b.pd]
  | mul a b => .tuple [.str "mul", a.pd, b.pd]
  | pow a n => .tuple [.str "pow", a.pd, .int n]
def FT.val (u v : Int) : FT → Int
  | int i => i
  | x => u
  | y => v
  | add a b => a.val u v + b.val u v
  | sub a b => a.val u v - b.val u v
  | mul a b => a.val u v * b.val u v
  | pow a n => a.val u v ^ n
def FT.lev : FT → Nat
  | add a b | sub a b | mul a b => max a.lev b.lev + 1
  | pow a _ => a.lev + 1
  | _ => 1
def FT.e : FT → Nat
  | add a b | sub a b => max a.e b.e
  | mul a b => a.e + b.e
  | pow a n => a.e * max 1 n
  | _ => 1
def FT.le (m : Nat) : FT → Prop
  | int i => i.natAbs < 2 ^ m
  | add a b | sub a b | mul a b => a.le m ∧ b.le m
  | pow a _ => a.le m
  | _ => True
def FT.hasY : FT → Bool
  | y => true
  | add a b | sub a b | mul a b => a.hasY || b.hasY
  | pow a _ => a.hasY
  | _ => false
theorem FT.e_pos : ∀ f : FT, 1 ≤ f.e
  | int _ => Nat.le_refl _
  | x => Nat.le_refl _
  | y => Nat.le_refl _
  | add a b => Nat.le_trans a.e_pos (Nat.le_max_left _ _)
  | sub a b => Nat.le_trans a.e_pos (Nat.le_max_left _ _)
  | mul a b => Nat.le_trans a.e_pos (Nat.le_add_right _ _)
  | pow a n => Nat.mul_pos a.e_pos (by omega)
theorem FT.lev_pos : ∀ f : FT, 1 ≤ f.lev
  | int _ => Nat.le_refl _
  | x => Nat.le_refl _
  | y => Nat.le_refl _
  | add a b => Nat.succ_le_succ (Nat.zero_le _)
  | sub a b => Nat.succ_le_succ (Nat.zero_le _)
  | mul a b => Nat.succ_le_succ (Nat.zero_le _)
  | pow a n => Nat.succ_le_succ (Nat.zero_le _)
theorem two_add {i j : Int} {a b c : Nat} (h1 : i.natAbs < 2 ^ a) (h2 : j.natAbs < 2 ^ b) (ha : a + 1 ≤ c) (hb : b + 1 ≤ c) : (i + j).natAbs < 2 ^ c ∧ (i - j).natAbs < 2 ^ c := by
  obtain ⟨d, rfl⟩ : ∃ d, c = d + 1 := ⟨c - 1, by omega⟩
  have x1 : i.natAbs < 2 ^ d := Nat.lt_of_lt_of_le h1 (Nat.pow_le_pow_right (by decide) (by omega))
  have x2 : j.natAbs < 2 ^ d := Nat.lt_of_lt_of_le h2 (Nat.pow_le_pow_right (by decide) (by omega))
  rw [Nat.pow_succ]
  omega
theorem two_mul {i j : Int} {a b c : Nat} (h1 : i.natAbs < 2 ^ a) (h2 : j.natAbs < 2 ^ b) (h : a + b ≤ c) : (i * j).natAbs < 2 ^ c := by
  rw [Int.natAbs_mul]
  refine Nat.lt_of_lt_of_le ?_ (Nat.pow_le_pow_right (by decide) h)
  rw [Nat.pow_add]
  exact Nat.mul_lt_mul'' h1 h2
theorem two_pow {i : Int} {a : Nat} (h1 : i.natAbs < 2 ^ a) : ∀ {n c : Nat}, a * max 1 n ≤ c → 0 < c → (i ^ n).natAbs < 2 ^ c
  | 0, c, _, h => by
    rw [Int.pow_zero]
    exact Nat.one_lt_two_pow (by omega)
  | 1, c, h, _ => by
    rw [Int.pow_succ, Int.pow_zero, Int.one_mul]
    exact Nat.lt_of_lt_of_le h1 (Nat.pow_le_pow_right (by decide) (by simpa using h))
  | n + 2, c, h, hc => by
    by_cases ha : a = 0
    · subst ha
      have : i = 0 := by
        have : i.natAbs < 1 := by simpa using h1
        omega
      subst this
      rw [Int.zero_pow (by omega)]
      exact Nat.pos_of_ne_zero (by simp)
    · have z : a * max 1 (n + 2) = a * (n + 1) + a := by
        rw [Nat.max_eq_right (by omega), Nat.mul_add, Nat.mul_add]; omega
      rw [z] at h
      rw [Int.pow_succ]
      refine two_mul (two_pow h1 (n := n + 1) (c := a * (n + 1)) (by rw [Nat.max_eq_right (by omega)]; exact Nat.le_refl _) (Nat.mul_pos (by omega) (by omega))) h1 h
theorem FT.small {m : Nat} {u v : Int} (hu : u.natAbs < 2 ^ m) (hv : v.natAbs < 2 ^ m) : ∀ {f : FT}, f.le m → (f.val u v).natAbs < 2 ^ ((f.lev + m) * f.e)
  | int i, h => Nat.lt_of_lt_of_le h (Nat.pow_le_pow_right (by decide) (by simp only [lev, e]; omega))
  | x, _ => Nat.lt_of_lt_of_le hu (Nat.pow_le_pow_right (by decide) (by simp only [lev, e]; omega))
  | y, _ => Nat.lt_of_lt_of_le hv (Nat.pow_le_pow_right (by decide) (by simp only [lev, e]; omega))
  | add a b, h => by
    refine (two_add (small hu hv h.1) (small hu hv h.2) ?_ ?_).1
    · exact sumLe (Nat.le_max_left _ _) (Nat.le_max_left _ _) a.e_pos
    · exact sumLe (Nat.le_max_right _ _) (Nat.le_max_right _ _) b.e_pos
  | sub a b, h => by
    refine (two_add (small hu hv h.1) (small hu hv h.2) ?_ ?_).2
    · exact sumLe (Nat.le_max_left _ _) (Nat.le_max_left _ _) a.e_pos
    · exact sumLe (Nat.le_max_right _ _) (Nat.le_max_right _ _) b.e_pos
  | mul a b, h => by
    refine two_mul (small hu hv h.1) (small hu hv h.2) ?_
    have h1 := Nat.mul_le_mul_right a.e (show a.lev + m ≤ max a.lev b.lev + 1 + m by omega)
    have h2 := Nat.mul_le_mul_right b.e (show b.lev + m ≤ max a.lev b.lev + 1 + m by omega)
    simp only [lev, e, Nat.mul_add]
    omega
  | pow a n, h => by
    refine two_pow (small hu hv (f := a) h) ?_ (Nat.mul_pos (by simp only [lev]; omega) (pow a n).e_pos)
    simp only [lev, e]
    rw [← Nat.mul_assoc]
    exact Nat.mul_le_mul_right _ (Nat.mul_le_mul_right _ (by omega))
where
  sumLe {l l' p p' : Nat} (h1 : l ≤ l') (h2 : p ≤ p') (h3 : 1 ≤ p) : (l + m) * p + 1 ≤ (l' + 1 + m) * p' := by
    have a1 : (l + m) * p ≤ (l' + m) * p' := Nat.mul_le_mul (by omega) h2
    have a2 : (l' + 1 + m) * p' = (l' + m) * p' + p' := by rw [show l' + 1 + m = (l' + m) + 1 by omega, Nat.add_mul, Nat.one_mul]
    omega
def FT.ok (m : Nat) (f : FT) : Prop := f.le m ∧ (f.lev + m) * f.e ≤ 100000
theorem FT.ok.sub1 {m : Nat} {a b : FT} (h : ((a.add b).ok m ∨ (a.sub b).ok m) ∨ (a.mul b).ok m) : a.ok m ∧ b.ok m := by
  have key : a.le m ∧ b.le m ∧ ∃ E, a.e ≤ E ∧ b.e ≤ E ∧ (max a.lev b.lev + 1 + m) * E ≤ 100000 := by
    rcases h with (⟨h1, h2⟩ | ⟨h1, h2⟩) | ⟨h1, h2⟩
    · exact ⟨h1.1, h1.2, max a.e b.e, Nat.le_max_left _ _, Nat.le_max_right _ _, h2⟩
    · exact ⟨h1.1, h1.2, max a.e b.e, Nat.le_max_left _ _, Nat.le_max_right _ _, h2⟩
    · exact ⟨h1.1, h1.2, a.e + b.e, Nat.le_add_right _ _, Nat.le_add_left _ _, h2⟩
  obtain ⟨l1, l2, E, e1, e2, h⟩ := key
  exact ⟨⟨l1, Nat.le_trans (Nat.mul_le_mul (by omega) e1) h⟩, ⟨l2, Nat.le_trans (Nat.mul_le_mul (by omega) e2) h⟩⟩
theorem FT.ok.subp {m n : Nat} {a : FT} (h : (a.pow n).ok m) : a.ok m ∧ (a.lev + m) * a.e * max 1 n ≤ 100000 := by
  obtain ⟨h1, h2⟩ := h
  simp only [lev, e] at h2
  rw [← Nat.mul_assoc] at h2
  have z : (a.lev + m) * a.e * max 1 n ≤ 100000 := Nat.le_trans (Nat.mul_le_mul_right _ (Nat.mul_le_mul_right _ (by omega))) h2
  exact ⟨⟨h1, Nat.le_trans (Nat.le_mul_of_pos_right _ (by omega)) z⟩, z⟩
theorem rngD_get {lo : Int} {n i : Nat} {x : PD} (h : (rngD lo n)[i]? = some x) : x = .int (lo + (i : Nat)) ∧ i < n := by
  unfold rngD at h
  rw [List.getElem?_map] at h
  obtain ⟨j, h1, rfl⟩ := Option.map_eq_some_iff.mp h
  have hi : i < n := by have := (List.getElem?_eq_some_iff.mp h1).1; simpa using this
  rw [List.getElem?_range hi] at h1
  cases h1
  exact ⟨rfl, hi⟩
theorem rngD_len {lo : Int} {n : Nat} : (rngD lo n).length = n := by unfold rngD; simp
def S_powered : FSpec := ⟨fun args Q => ∃ (b : Int) (n k : Nat), args = [.d (.int b), .d (.int n)] ∧ b.natAbs < 2 ^ k ∧ 0 < k ∧ k * max 1 n ≤ 100000 ∧ Q (.d (.int (b ^ n))) []⟩
abbrev N_powered : List Str := ["number", "times", "found", "turn"]
def ir_powered : TSt :=
  (sSeq (sAsg 2 (fD (dC (.int 1))))
    (sSeq (sFor (iRg (aCons (.s 1) aNil)) (.nm 3) (sAsg 2 (fD (dBin bMulI (.s 2) (.s 0)))))
    (sRetV 2)))
theorem pow_le {k n i : Nat} (h : k * max 1 n ≤ 100000) (hk : 0 < k) (hi : i ≤ n) : k * max 1 i ≤ 100000 := Nat.le_trans (Nat.mul_le_mul_left _ (by omega)) h
theorem sp_powered : ∀ args Q, S_powered.sp args Q → ir_powered (endsOf args Q) (rho0 N_powered args) := by
  rintro args Q ⟨b, n, k, rfl, h1, h2, h3, q⟩
  have hn : n ≤ 100000 := by
    have : max 1 n ≤ k * max 1 n := Nat.le_mul_of_pos_left _ h2
    omega
  refine ⟨by omega, _, rfl, fun i ρ => ∃ t, ρ = [some (.d (.int b)), some (.d (.int n)), some (.d (.int (b ^ i))), t], ⟨none, by rw [Int.pow_zero]⟩, ?_, ?_⟩
  · rintro i x ρ hx ⟨t, rfl⟩
    obtain ⟨rfl, hi⟩ := rngD_get hx
    refine ⟨mulOk (k * max 1 i) k (two_pow h1 (Nat.le_refl _) (Nat.mul_pos h2 (by omega))) h1 ?_ (Nat.mul_pos h2 (by omega)) h2, ?_⟩
    · have := pow_le h3 h2 (show i ≤ n by omega)
      have : k ≤ k * max 1 n := Nat.le_mul_of_pos_right _ (by omega)
      omega
    · exact ⟨_, by rw [Int.pow_succ]; rfl⟩
  · rintro ρ ⟨t, rfl⟩
    rw [rngD_len]
    exact q
end DL
namespace DL
open PySem L2 PyProof.Rows
def S_worth (d : Nat) : FSpec := ⟨fun args Q => ∃ (f : FT) (u v : Int) (m : Nat), args = [.d f.pd, .d (.int u), .d (.int v)] ∧ f.lev ≤ d ∧ f.ok m ∧ u.natAbs < 2 ^ m ∧ v.natAbs < 2 ^ m ∧ Q (.d (.int (f.val u v))) []⟩
theorem S_worth0 : ∀ args Q, ¬ (S_worth 0).sp args Q := by
  rintro args Q ⟨f, u, v, m, _, h, _⟩
  have := f.lev_pos
  omega
theorem addOk {m : Nat} {f : FT} (h : f.ok m) : (f.lev + m) * f.e ≤ 100000 ∧ 0 < (f.lev + m) * f.e := ⟨h.2, Nat.mul_pos (by have := f.lev_pos; omega) f.e_pos⟩
abbrev N_worth : List Str := ["formula", "x", "y", "one", "other"]
def ir_worth (S_worth : FSpec) (S_powered : FSpec) : TSt :=
  (sSeq (sIf (tNotD (tVal (dIsi "tuple" (.s 0)))) (sRet (fD (dGetF (fDict [.inr "x", .inr "y"] [(dVar 1), (dVar 2)]) (.s 0) (.s 0)))) sNext)
    (sSeq (sAsg 3 (fCall S_worth (aCons (.e (dBin bIx (.s 0) (.e (dC (.int 1))))) (aCons (.e (dVar 1)) (aCons (.e (dVar 2)) aNil)))))
    (sSeq (sIf (tVal (dBin cEq (.e (dBin bIx (.s 0) (.e (dC (.int 0))))) (.e (dC (.str "pow"))))) (sRet (fCall S_powered (aCons (.e (dVar 3)) (aCons (.e (dBin bIx (.s 0) (.e (dC (.int 2))))) aNil)))) sNext)
    (sSeq (sAsg 4 (fCall S_worth (aCons (.e (dBin bIx (.s 0) (.e (dC (.int 2))))) (aCons (.e (dVar 1)) (aCons (.e (dVar 2)) aNil)))))
    (sSeq (sIf (tVal (dBin cEq (.e (dBin bIx (.s 0) (.e (dC (.int 0))))) (.e (dC (.str "mul"))))) (sRet (fD (dBin bMulI (.s 3) (.s 4)))) sNext)
    (sRet (fD (dIte (tVal (dBin cEq (.e (dBin bIx (.s 0) (.e (dC (.int 0))))) (.e (dC (.str "add"))))) (dBin bAdd (.s 3) (.s 4)) (dBin bSub (.s 3) (.s 4))))))))))
theorem sp_worth (d : Nat) : ∀ args Q, (S_worth (d + 1)).sp args Q → ir_worth (S_worth d) S_powered (endsOf args Q) (rho0 N_worth args) := by
  rintro args Q ⟨f, u, v, m, rfl, hl, ok, hu, hv, q⟩
  cases f with
  | int i => exact ⟨rfl, fun _ => ⟨_, rfl, q⟩, nofun⟩
  | x => exact ⟨rfl, fun _ => ⟨_, rfl, q⟩, nofun⟩
  | y => exact ⟨rfl, fun _ => ⟨_, rfl, q⟩, nofun⟩
  | pow a n =>
    have hl' : a.lev ≤ d := by simp only [FT.lev] at hl; omega
    obtain ⟨oa, hb⟩ := ok.subp
    have z := addOk oa
    refine ⟨rfl, nofun, fun _ => ⟨_, rfl, rfl, a, u, v, m, rfl, hl', oa, hu, hv, _, rfl, fun _ => ?_, nofun⟩⟩
    exact ⟨_, rfl, rfl, a.val u v, n, _, rfl, FT.small hu hv oa.1, z.2, hb, q⟩
  | mul a b =>
    have hl' : a.lev ≤ d ∧ b.lev ≤ d := by simp only [FT.lev] at hl; omega
    obtain ⟨oa, ob⟩ := FT.ok.sub1 (.inr ok)
    refine ⟨rfl, nofun, fun _ => ⟨_, rfl, rfl, a, u, v, m, rfl, hl'.1, oa, hu, hv, _, rfl, nofun, fun _ => ⟨_, rfl, rfl, b, u, v, m, rfl, hl'.2, ob, hu, hv, _, rfl, fun _ => ?_, nofun⟩⟩⟩
    exact ⟨mulOk _ _ (FT.small hu hv oa.1) (FT.small hu hv ob.1) (by have := oa.2; have := ob.2; omega) (addOk oa).2 (addOk ob).2, q⟩
  | add a b =>
    have hl' : a.lev ≤ d ∧ b.lev ≤ d := by simp only [FT.lev] at hl; omega
    obtain ⟨oa, ob⟩ := FT.ok.sub1 (.inl (.inl ok))
    refine ⟨rfl, nofun, fun _ => ⟨_, rfl, rfl, a, u, v, m, rfl, hl'.1, oa, hu, hv, _, rfl, nofun, fun _ => ⟨_, rfl, rfl, b, u, v, m, rfl, hl'.2, ob, hu, hv, _, rfl, nofun, fun _ => ⟨_, rfl, fun _ => q, nofun⟩⟩⟩⟩
  | sub a b =>
    have hl' : a.lev ≤ d ∧ b.lev ≤ d := by simp only [FT.lev] at hl; omega
    obtain ⟨oa, ob⟩ := FT.ok.sub1 (.inl (.inr ok))
    refine ⟨rfl, nofun, fun _ => ⟨_, rfl, rfl, a, u, v, m, rfl, hl'.1, oa, hu, hv, _, rfl, nofun, fun _ => ⟨_, rfl, rfl, b, u, v, m, rfl, hl'.2, ob, hu, hv, _, rfl, nofun, fun _ => ⟨_, rfl, nofun, fun _ => q⟩⟩⟩⟩
abbrev N_law_worth_98b9 : List Str := ["formula", "x", "y", "one", "found", "k", "other"]
def ir_law_worth_98b9 (S_law_worth_98b9 : FSpec) : TSt :=
  (sSeq (sIf (tVal (dIsi "str" (.s 0))) (sRet (fD (dIte (tVal (dBin cEq (.s 0) (.e (dC (.str "x"))))) (dVar 1) (dVar 2)))) sNext)
    (sSeq (sIf (tVal (dIsi "int" (.s 0))) (sRetV 0) sNext)
    (sSeq (sPar 3 4 (fCall S_law_worth_98b9 (aCons (.e (dBin bIx (.s 0) (.e (dC (.int 1))))) (aCons (.e (dVar 1)) (aCons (.e (dVar 2)) aNil)))) (fD (dC (.int 1))))
    (sSeq (sIf (tVal (dBin cEq (.e (dBin bIx (.s 0) (.e (dC (.int 0))))) (.e (dC (.str "pow"))))) (sSeq (sFor (iRg (aCons (.e (dBin bIx (.s 0) (.e (dC (.int 2))))) aNil)) (.nm 5) (sAsg 4 (fD (dBin bMulI (.s 4) (.s 3)))))
    (sRetV 4)) sNext)
    (sSeq (sAsg 6 (fCall S_law_worth_98b9 (aCons (.e (dBin bIx (.s 0) (.e (dC (.int 2))))) (aCons (.e (dVar 1)) (aCons (.e (dVar 2)) aNil)))))
    (sSeq (sIf (tVal (dBin cEq (.e (dBin bIx (.s 0) (.e (dC (.int 0))))) (.e (dC (.str "mul"))))) (sRet (fD (dBin bMulI (.s 3) (.s 6)))) sNext)
    (sRet (fD (dIte (tVal (dBin cEq (.e (dBin bIx (.s 0) (.e (dC (.int 0))))) (.e (dC (.str "add"))))) (dBin bAdd (.s 3) (.s 6)) (dBin bSub (.s 3) (.s 6)))))))))))
theorem sp_law_worth (d : Nat) : ∀ args Q, (S_worth (d + 1)).sp args Q → ir_law_worth_98b9 (S_worth d) (endsOf args Q) (rho0 N_law_worth_98b9 args) := by
  rintro args Q ⟨f, u, v, m, rfl, hl, ok, hu, hv, q⟩
  cases f with
  | int i => exact ⟨rfl, nofun, fun _ => ⟨rfl, fun _ => q, nofun⟩⟩
  | x => exact ⟨rfl, fun _ => ⟨fun _ => q, nofun⟩, nofun⟩
  | y => exact ⟨rfl, fun _ => ⟨nofun, fun _ => q⟩, nofun⟩
  | pow a n =>
    have hl' : a.lev ≤ d := by simp only [FT.lev] at hl; omega
    obtain ⟨oa, hb⟩ := ok.subp
    have z := addOk oa
    have sm := FT.small hu hv oa.1
    have hn : n ≤ 100000 := by
      have : max 1 n ≤ (a.lev + m) * a.e * max 1 n := Nat.le_mul_of_pos_left _ z.2
      omega
    refine ⟨rfl, nofun, fun _ => ⟨rfl, nofun, fun _ => ⟨_, rfl, rfl, a, u, v, m, rfl, hl', oa, hu, hv, _, rfl, fun _ => ?_, nofun⟩⟩⟩
    refine ⟨_, rfl, by omega, _, rfl, fun i ρ => ∃ t, ρ = [some (.d (FT.pow a n).pd), some (.d (.int u)), some (.d (.int v)), some (.d (.int (a.val u v))), some (.d (.int (a.val u v ^ i))), t, none], ⟨none, by rw [Int.pow_zero]⟩, ?_, ?_⟩
    · rintro i x ρ hx ⟨t, rfl⟩
      obtain ⟨rfl, hi⟩ := rngD_get hx
      refine ⟨mulOk ((a.lev + m) * a.e * max 1 i) _ (two_pow sm (Nat.le_refl _) (Nat.mul_pos z.2 (by omega))) sm ?_ (Nat.mul_pos z.2 (by omega)) z.2, ?_⟩
      · have := pow_le hb z.2 (show i ≤ n by have : i < ((n : Nat) : Int).toNat := hi; omega)
        omega
      · exact ⟨_, by rw [Int.pow_succ]; rfl⟩
    · rintro ρ ⟨t, rfl⟩
      rw [rngD_len]
      exact q
  | mul a b =>
    have hl' : a.lev ≤ d ∧ b.lev ≤ d := by simp only [FT.lev] at hl; omega
    obtain ⟨oa, ob⟩ := FT.ok.sub1 (.inr ok)
    refine ⟨rfl, nofun, fun _ => ⟨rfl, nofun, fun _ => ⟨_, rfl, rfl, a, u, v, m, rfl, hl'.1, oa, hu, hv, _, rfl, nofun, fun _ => ⟨_, rfl, rfl, b, u, v, m, rfl, hl'.2, ob, hu, hv, _, rfl, fun _ => ?_, nofun⟩⟩⟩⟩
    exact ⟨mulOk _ _ (FT.small hu hv oa.1) (FT.small hu hv ob.1) (by have := oa.2; have := ob.2; omega) (addOk oa).2 (addOk ob).2, q⟩
  | add a b =>
    have hl' : a.lev ≤ d ∧ b.lev ≤ d := by simp only [FT.lev] at hl; omega
    obtain ⟨oa, ob⟩ := FT.ok.sub1 (.inl (.inl ok))
    refine ⟨rfl, nofun, fun _ => ⟨rfl, nofun, fun _ => ⟨_, rfl, rfl, a, u, v, m, rfl, hl'.1, oa, hu, hv, _, rfl, nofun, fun _ => ⟨_, rfl, rfl, b, u, v, m, rfl, hl'.2, ob, hu, hv, _, rfl, nofun, fun _ => ⟨_, rfl, fun _ => q, nofun⟩⟩⟩⟩⟩
  | sub a b =>
    have hl' : a.lev ≤ d ∧ b.lev ≤ d := by simp only [FT.lev] at hl; omega
    obtain ⟨oa, ob⟩ := FT.ok.sub1 (.inl (.inr ok))
    refine ⟨rfl, nofun, fun _ => ⟨rfl, nofun, fun _ => ⟨_, rfl, rfl, a, u, v, m, rfl, hl'.1, oa, hu, hv, _, rfl, nofun, fun _ => ⟨_, rfl, rfl, b, u, v, m, rfl, hl'.2, ob, hu, hv, _, rfl, nofun, fun _ => ⟨_, rfl, nofun, fun _ => q⟩⟩⟩⟩⟩
end DL
namespace DL
open PySem L2 PyProof.Rows
def Lets (yy : Bool) (ls : List PD) : Prop := 0 < ls.length ∧ ls.length < 100 ∧ ∀ l ∈ ls, l = FT.x.pd ∨ (yy = true ∧ l = FT.y.pd)
def FT.leaf (yy : Bool) (m : Nat) (f : FT) : Prop := f.lev = 1 ∧ f.e = 1 ∧ f.le m ∧ (f.hasY = true → yy = true)
theorem lets_leaf {yy : Bool} {ls : List PD} {l : PD} (h : Lets yy ls) (hl : l ∈ ls) : ∃ f : FT, l = f.pd ∧ f.leaf yy 140 := by
  rcases h.2.2 l hl with rfl | ⟨hy, rfl⟩
  · exact ⟨.x, rfl, rfl, rfl, trivial, nofun⟩
  · exact ⟨.y, rfl, rfl, rfl, trivial, fun _ => hy⟩
def S_leaf : FSpec := ⟨fun args Q => ∃ (b : Nat) (dk ls : List PD) (yy : Bool), args = [.ls (some 0) dk, .d (.list ls)] ∧ Dk (b + 8) dk ∧ Lets yy ls ∧ ∀ (f : FT) dk', f.leaf yy 140 → Dk b dk' → Q (.d f.pd) [.ls (some 0) dk']⟩
abbrev N_law_leaf_a91b : List Str := ["deck", "letters", "far", "wide", "some"]
def ir_law_leaf_a91b (S_law_draw_a51a : FSpec) (S_law_one_90da : FSpec) : TSt :=
  (sSeq (sAsg 2 (fD (dBin bAdd (.e (dBin bMulI (.e (dFz (fCall S_law_draw_a51a (aCons (.s 0) (aCons (.e (dBin bPow (.e (dC (.int 10))) (.e (dC (.int 19))))) aNil))))) (.e (dBin bPow (.e (dC (.int 10))) (.e (dC (.int 20))))))) (.e (dFz (fCall S_law_draw_a51a (aCons (.s 0) (aCons (.e (dBin bPow (.e (dC (.int 10))) (.e (dC (.int 19))))) aNil))))))))
    (sSeq (sAsg 3 (fCall S_law_one_90da (aCons (.s 0) (aCons (.e (dFz (fLst (aCons (.e (dVar 2)) (aCons (.e (dNeg (.s 2))) (aCons (.e (dBin bSub (.e (dBin bPow (.e (dC (.int 10))) (.e (dC (.int 40))))) (.e (dC (.int 1))))) (aCons (.e (dBin bSub (.e (dC (.int 1))) (.e (dBin bPow (.e (dC (.int 10))) (.e (dC (.int 40))))))) aNil))))))) aNil))))
    (sSeq (sAsg 4 (fLst (aCons (.e (dC (.int 0))) (aCons (.e (dC (.int 1))) (aCons (.e (dNeg (.e (dC (.int 1))))) (aCons (.e (dC (.int 2))) (aCons (.e (dC (.int 3))) (aCons (.e (dNeg (.e (dC (.int 5))))) (aCons (.e (dC (.int 6))) (aCons (.e (dC (.int 12))) (aCons (.e (dBin bSub (.e (dFz (fCall S_law_draw_a51a (aCons (.s 0) (aCons (.e (dC (.int 199))) aNil))))) (.e (dC (.int 99))))) (aCons (.e (dVar 3)) aNil))))))))))))
    (sRet (fCall S_law_one_90da (aCons (.s 0) (aCons (.e (dFz (fLst (aCons (.e (dFz (fCall S_law_one_90da (aCons (.s 0) (aCons (.e (dVar 4)) aNil))))) (aCons (.e (dFz (fCall S_law_one_90da (aCons (.s 0) (aCons (.e (dVar 1)) aNil))))) (aCons (.e (dFz (fCall S_law_one_90da (aCons (.s 0) (aCons (.e (dVar 1)) aNil))))) aNil)))))) aNil)))))))
def SmI (x : PD) : Prop := ∃ i : Int, x = .int i ∧ i.natAbs < 2 ^ 140
theorem smI {i : Int} (h : i.natAbs < 2 ^ 140) : SmI (.int i) := ⟨i, rfl, h⟩
theorem sp_leaf : ∀ args Q, S_leaf.sp args Q → ir_law_leaf_a91b S_draw S_one (endsOf args Q) (rho0 N_law_leaf_a91b args) := by
  rintro args Q ⟨b, dk, ls, yy, rfl, h, hl, q⟩
  have g : (10 : Int) ^ (19 : Int).toNat = 10 ^ 19 := rfl
  refine ⟨powOk (k := 4) (m := 19) (by decide) (by decide) (by decide), rfl, b + 7, dk, _, rfl, h, ⟨by decide, by decide⟩, fun r1 dk1 a0 a1 d1 => ?_⟩
  rw [g] at a1
  refine ⟨powOk (k := 4) (m := 20) (by decide) (by decide) (by decide), mulOk 64 68 (by omega) (by decide), powOk (k := 4) (m := 19) (by decide) (by decide) (by decide), rfl, b + 6, dk1, _, rfl, d1, ⟨by decide, by decide⟩, fun r2 dk2 b0 b1 d2 => ?_⟩
  rw [g] at b1
  have far : (r1 * 10 ^ (20 : Int).toNat + r2).natAbs < 2 ^ 140 := by
    have e : (10 : Int) ^ (20 : Int).toNat = 100000000000000000000 := rfl
    rw [e]
    omega
  obtain ⟨w, hw⟩ : ∃ w, w = r1 * 10 ^ (20 : Int).toNat + r2 := ⟨_, rfl⟩
  rw [← hw] at far
  refine ⟨powOk (k := 4) (m := 40) (by decide) (by decide) (by decide), powOk (k := 4) (m := 40) (by decide) (by decide) (by decide), rfl, b + 5, dk2, _, rfl, d2, ⟨Nat.succ_pos _, by show 4 < 2 ^ 60; decide⟩, fun v dk3 hv d3 => ?_⟩
  rw [← hw] at hv
  have vs : SmI v := by
    have all : ∀ x ∈ [PyData.int w, .int (-w), .int (10 ^ (40 : Int).toNat - 1), .int (1 - 10 ^ (40 : Int).toNat)], SmI x := by
      simp only [List.forall_mem_cons]
      exact ⟨smI far, smI (by omega), smI (by decide), smI (by decide), fun x hx => by cases hx⟩
    exact all v hv
  obtain ⟨vi, rfl, hvi⟩ := vs
  refine ⟨rfl, b + 4, dk3, _, rfl, d3, ⟨by decide, by decide⟩, fun r3 dk4 c0 c1 d4 => ?_⟩
  refine ⟨rfl, b + 3, dk4, _, rfl, d4, ⟨Nat.succ_pos _, by show 10 < 2 ^ 60; decide⟩, fun s dk5 hs d5 => ?_⟩
  have ss : SmI s := by
    have all : ∀ x ∈ [PyData.int 0, .int 1, .int (-1), .int 2, .int 3, .int (-5), .int 6, .int 12, .int (r3 - 99), .int vi], SmI x := by
      simp only [List.forall_mem_cons]
      exact ⟨smI (by decide), smI (by decide), smI (by decide), smI (by decide), smI (by decide), smI (by decide), smI (by decide), smI (by decide), smI (by omega), smI hvi, fun x hx => by cases hx⟩
    exact all s hs
  obtain ⟨si, rfl, hsi⟩ := ss
  refine ⟨rfl, b + 2, dk5, ls, rfl, d5, ⟨hl.1, by have := hl.2.1; omega⟩, fun l1 dk6 hl1 d6 => ?_⟩
  refine ⟨rfl, b + 1, dk6, ls, rfl, d6, ⟨hl.1, by have := hl.2.1; omega⟩, fun l2 dk7 hl2 d7 => ?_⟩
  refine ⟨rfl, b, dk7, _, rfl, d7, ⟨by show 0 < 3; decide, by show 3 < 2 ^ 60; decide⟩, fun z dk8 hz d8 => ?_⟩
  have fin : ∃ f : FT, z = f.pd ∧ f.leaf yy 140 := by
    have all : ∀ x ∈ [PyData.int si, l1, l2], ∃ f : FT, x = f.pd ∧ f.leaf yy 140 := by
      simp only [List.forall_mem_cons]
      exact ⟨⟨.int si, rfl, rfl, rfl, hsi, nofun⟩, lets_leaf hl hl1, lets_leaf hl hl2, fun x hx => by cases hx⟩
    exact all z hz
  obtain ⟨f, rfl, hf⟩ := fin
  exact q f dk8 hf d8
def cst : Nat → Nat
  | 0 => 8
  | d + 1 => 2 * cst d + 3
theorem cst_ge : ∀ d, 8 ≤ cst d
  | 0 => Nat.le_refl _
  | d + 1 => by have := cst_ge d; show 8 ≤ 2 * cst d + 3; omega
def FT.drawn (yy : Bool) (m room deep : Nat) (f : FT) : Prop := f.lev ≤ deep ∧ f.e ≤ room ∧ f.le m ∧ (f.hasY = true → yy = true)
def S_formula (d : Nat) : FSpec := ⟨fun args Q => ∃ (b : Nat) (dk ls : List PD) (yy : Bool) (room deep : Nat), args = [.ls (some 0) dk, .d (.list ls), .d (.int room), .d (.int deep)] ∧ Dk (b + cst d) dk ∧ Lets yy ls ∧ 1 ≤ room ∧ room ≤ 1000 ∧ 1 ≤ deep ∧ deep ≤ d ∧
  ∀ (f : FT) dk', f.drawn yy 140 room deep → Dk b dk' → Q (.d f.pd) [.ls (some 0) dk']⟩
theorem S_formula0 : ∀ args Q, ¬ (S_formula 0).sp args Q := by
  rintro args Q ⟨b, dk, ls, yy, room, deep, _, _, _, _, _, h, h2, _⟩
  omega
abbrev N_law_formula_6b2b : List Str := ["deck", "letters", "room", "deep", "way", "word", "one", "power", "part"]
def ir_law_formula_6b2b (S_law_draw_a51a : FSpec) (S_law_leaf_a91b : FSpec) (S_law_formula_6b2b : FSpec) : TSt :=
  (sSeq (sAsg 4 (fCall S_law_draw_a51a (aCons (.s 0) (aCons (.e (dC (.int 9))) aNil))))
    (sSeq (sIf (tOrD (tVal (dBin cLt (.s 3) (.e (dC (.int 2))))) (tOrD (tVal (dBin cLt (.s 4) (.e (dC (.int 2))))) (tAndD (tVal (dBin cLt (.s 2) (.e (dC (.int 2))))) (tVal (dBin (cIn false) (.s 4) (.e (dFz (fLst (aCons (.e (dC (.int 5))) (aCons (.e (dC (.int 6))) (aCons (.e (dC (.int 7))) aNil))))))))))) (sRet (fCall S_law_leaf_a91b (aCons (.s 0) (aCons (.e (dVar 1)) aNil)))) sNext)
    (sSeq (sIf (tVal (dBin cLt (.s 4) (.e (dC (.int 5))))) (sSeq (sAsg 5 (fD (dBin bIx (.e (dFz (fLst (aCons (.e (dC (.str "add"))) (aCons (.e (dC (.str "sub"))) (aCons (.e (dC (.str "add"))) aNil)))))) (.e (dBin bSub (.s 4) (.e (dC (.int 2))))))))
    (sSeq (sAsg 6 (fCall S_law_formula_6b2b (aCons (.s 0) (aCons (.e (dVar 1)) (aCons (.e (dVar 2)) (aCons (.e (dBin bSub (.s 3) (.e (dC (.int 1))))) aNil))))))
    (sRet (fD (dTup (aCons (.e (dVar 5)) (aCons (.e (dVar 6)) (aCons (.e (dFz (fCall S_law_formula_6b2b (aCons (.s 0) (aCons (.e (dVar 1)) (aCons (.e (dVar 2)) (aCons (.e (dBin bSub (.s 3) (.e (dC (.int 1))))) aNil))))))) aNil)))))))) sNext)
    (sSeq (sIf (tVal (dBin cEq (.s 4) (.e (dC (.int 8))))) (sSeq (sAsg 7 (fCall S_law_draw_a51a (aCons (.s 0) (aCons (.e (dBin bAdd (.s 2) (.e (dC (.int 1))))) aNil))))
    (sRet (fD (dTup (aCons (.e (dC (.str "pow"))) (aCons (.e (dFz (fCall S_law_formula_6b2b (aCons (.s 0) (aCons (.e (dVar 1)) (aCons (.e (dBin bFdiv (.s 2) (.e (dBi bMax2 (aCons (.e (dC (.int 1))) (aCons (.s 7) aNil)))))) (aCons (.e (dBin bSub (.s 3) (.e (dC (.int 1))))) aNil))))))) (aCons (.e (dVar 7)) aNil))))))) sNext)
    (sSeq (sAsg 8 (fD (dBin bAdd (.e (dC (.int 1))) (.e (dFz (fCall S_law_draw_a51a (aCons (.s 0) (aCons (.e (dBin bSub (.s 2) (.e (dC (.int 1))))) aNil))))))))
    (sSeq (sAsg 6 (fCall S_law_formula_6b2b (aCons (.s 0) (aCons (.e (dVar 1)) (aCons (.e (dVar 8)) (aCons (.e (dBin bSub (.s 3) (.e (dC (.int 1))))) aNil))))))
    (sRet (fD (dTup (aCons (.e (dC (.str "mul"))) (aCons (.e (dVar 6)) (aCons (.e (dFz (fCall S_law_formula_6b2b (aCons (.s 0) (aCons (.e (dVar 1)) (aCons (.e (dBin bSub (.s 2) (.s 8))) (aCons (.e (dBin bSub (.s 3) (.e (dC (.int 1))))) aNil))))))) aNil))))))))))))
theorem sp_formula (d : Nat) : ∀ args Q, (S_formula (d + 1)).sp args Q → ir_law_formula_6b2b S_draw S_leaf (S_formula d) (endsOf args Q) (rho0 N_law_formula_6b2b args) := by
  rintro args Q ⟨b, dk, ls, yy, room, deep, rfl, h, hl, r1, r2, p1, p2, q⟩
  have hc : cst (d + 1) = 2 * cst d + 3 := rfl
  have c8 := cst_ge d
  refine ⟨rfl, b + 2 * cst d + 2, dk, 9, rfl, h.mono (by omega), ⟨by decide, by decide⟩, fun way dk1 w0 w1 d1 => ?_⟩
  have leaf : ∀ {ρ : En} {D : DE}, D.rt = retOk [.ls (some 0) dk, .d (.list ls), .d (.int room), .d (.int deep)] Q → ρ = [some (.ls (some 0) dk1), some (.d (.list ls)), some (.d (.int room)), some (.d (.int deep)), some (.d (.int way)), none, none, none, none] →
      sRet (fCall S_leaf (aCons (.s 0) (aCons (.e (dVar 1)) aNil))) D ρ := by
    rintro ρ D hD rfl
    refine ⟨rfl, b, dk1, ls, yy, rfl, d1.mono (by omega), hl, fun f dk2 hf d2 => ?_⟩
    rw [hD]
    exact q f dk2 ⟨by rw [hf.1]; exact p1, by rw [hf.2.1]; exact r1, hf.2.2.1, hf.2.2.2⟩ d2
  refine ⟨fun _ => ⟨fun _ => leaf rfl rfl, nofun⟩, fun g1 => ⟨fun _ => ⟨fun _ => leaf rfl rfl, nofun⟩, fun g2 => ⟨fun g3 => ⟨rfl, _, rfl, rfl, fun _ => leaf rfl rfl, fun g4 => ?_⟩, fun g3 => ⟨nofun, fun _ => ?_⟩⟩⟩⟩
  all_goals
    have dp : 2 ≤ deep := by
      have : ¬ ((deep : Int) < 2) := of_decide_eq_false g1
      omega
    have wy : 2 ≤ way := by
      have : ¬ (way < 2) := of_decide_eq_false g2
      omega
    have key : 2 ≤ room ∨ (way ≠ 5 ∧ way ≠ 6 ∧ way ≠ 7) := by
      first
        | (left; have : ¬ ((room : Int) < 2) := of_decide_eq_false g3; omega)
        | (right
           have z : (PyData.eqv (.int 5) (.int way) || (PyData.eqv (.int 6) (.int way) || (PyData.eqv (.int 7) (.int way) || false))) = false := g4
           simp [PyData.eqv] at z
           omega)
    clear g1 g2 g3
    obtain ⟨dp', rfl⟩ : ∃ n, deep = n + 1 := ⟨deep - 1, by omega⟩
    have ed : ((dp' + 1 : Nat) : Int) - 1 = (dp' : Nat) := by omega
    refine ⟨fun g5 => ?_, fun g5 => ⟨fun g6 => ?_, fun g6 => ?_⟩⟩
    · have w5 : way < 5 := of_decide_eq_true g5
      -- a sum or a difference
      have word : ∃ x, atI [PyData.str "add", .str "sub", .str "add"] (way - 2) = some x ∧ (x = .str "add" ∨ x = .str "sub") := by
        obtain ⟨x, e1, e2⟩ := atI_some (xs := [PyData.str "add", .str "sub", .str "add"]) (i := way - 2) (by omega) (by show way - 2 < 3; omega)
        refine ⟨x, e1, ?_⟩
        have := List.mem_of_getElem? e2
        simp only [List.mem_cons, List.not_mem_nil, or_false] at this
        rcases this with h | h | h
        · exact .inl h
        · exact .inr h
        · exact .inl h
      obtain ⟨x, ex, hx⟩ := word
      refine ⟨x, ex, rfl, b + cst d, dk1, ls, yy, room, dp', by rw [← ed]; rfl, d1.mono (by omega), hl, r1, r2, by omega, by omega, fun f dk2 hf d2 => ?_⟩
      refine ⟨rfl, b, dk2, ls, yy, room, dp', by rw [← ed]; rfl, d2, hl, r1, r2, by omega, by omega, fun g dk3 hg d3 => ?_⟩
      obtain ⟨f1, f2, f3, f4⟩ := hf
      obtain ⟨g1, g2, g3, g4⟩ := hg
      rcases hx with rfl | rfl
      · exact q (.add f g) dk3 ⟨by simp only [FT.lev]; omega, by simp only [FT.e]; omega, ⟨f3, g3⟩, by simp only [FT.hasY, Bool.or_eq_true]; exact fun h => h.elim f4 g4⟩ d3
      · exact q (.sub f g) dk3 ⟨by simp only [FT.lev]; omega, by simp only [FT.e]; omega, ⟨f3, g3⟩, by simp only [FT.hasY, Bool.or_eq_true]; exact fun h => h.elim f4 g4⟩ d3
    · -- a power
      refine ⟨rfl, b + 2 * cst d + 1, dk1, _, rfl, d1.mono (by omega), ⟨by omega, ?_⟩, fun r dk2 h0 h1 d2 => ?_⟩
      · exact Nat.lt_of_lt_of_le (log2_lt (k := 20) (by omega) (by decide)) (by decide)
      obtain ⟨n, rfl⟩ : ∃ n : Nat, r = n := ⟨r.toNat, by omega⟩
      have em : (if (n : Int) > 1 then (n : Int) else 1) = ((max 1 n : Nat) : Int) := by split <;> omega
      have er : (room : Int) / (if (n : Int) > 1 then (n : Int) else 1) = ((room / max 1 n : Nat) : Int) := by rw [em, Int.natCast_ediv]
      refine ⟨⟨by rw [em]; omega, ?_⟩, rfl, b, dk2, ls, yy, room / max 1 n, dp', by rw [← ed, ← er]; rfl, d2.mono (by omega), hl, ?_, Nat.le_trans (Nat.div_le_self _ _) r2, by omega, by omega, fun f dk3 hf d3 => ?_⟩
      · rw [em, Int.natAbs_natCast]
        exact Nat.lt_of_lt_of_le (log2_lt (i := ((max 1 n : Nat) : Int)) (k := 20) (by omega) (by decide)) (by decide)
      · exact Nat.div_pos (by omega) (by omega)
      · obtain ⟨f1, f2, f3, f4⟩ := hf
        refine q (.pow f n) dk3 ⟨by simp only [FT.lev]; omega, ?_, f3, f4⟩ d3
        simp only [FT.e]
        exact Nat.le_trans (Nat.mul_le_mul_right _ f2) (Nat.div_mul_le_self _ _)
    · -- a product
      have w5 : ¬ way < 5 := of_decide_eq_false g5
      have w8 : ¬ way = 8 := of_decide_eq_false g6
      have rm : 2 ≤ room := by omega
      refine ⟨rfl, b + 2 * cst d + 1, dk1, _, rfl, d1.mono (by omega), ⟨by omega, ?_⟩, fun r dk2 h0 h1 d2 => ?_⟩
      · exact Nat.lt_of_lt_of_le (log2_lt (k := 20) (by omega) (by decide)) (by decide)
      obtain ⟨n, rfl⟩ : ∃ n : Nat, r = n := ⟨r.toNat, by omega⟩
      have e1 : 1 + (n : Int) = ((1 + n : Nat) : Int) := by omega
      have e2 : (room : Int) - (1 + (n : Int)) = ((room - (1 + n) : Nat) : Int) := by omega
      refine ⟨rfl, b + cst d, dk2, ls, yy, 1 + n, dp', by rw [← ed, ← e1]; rfl, d2.mono (by omega), hl, by omega, by omega, by omega, by omega, fun f dk3 hf d3 => ?_⟩
      refine ⟨rfl, b, dk3, ls, yy, room - (1 + n), dp', by rw [← ed, ← e2]; rfl, d3, hl, by omega, by omega, by omega, by omega, fun g dk4 hg d4 => ?_⟩
      obtain ⟨f1, f2, f3, f4⟩ := hf
      obtain ⟨g1, g2, g3, g4⟩ := hg
      exact q (.mul f g) dk4 ⟨by simp only [FT.lev]; omega, by simp only [FT.e]; omega, ⟨f3, g3⟩, by simp only [FT.hasY, Bool.or_eq_true]; exact fun h => h.elim f4 g4⟩ d4
end DL
namespace DL
open PySem L2 PyProof.Rows
def FT.row (f : FT) (c : Int) (n : Nat) : List PD := (List.range n).map fun i => .int (f.val (i : Nat) 0 % c)
end DL
namespace DL
open PySem L2 PyProof.Rows
theorem Shw.tup3 {n x y z : Nat} {a b c : PD} (h1 : Shw n x a) (h2 : Shw n y b) (h3 : Shw n z c) : Shw (n + 1) (x + y + z + 9) (.tuple [a, b, c]) := by
  refine ⟨?_, ?_, ?_, ?_⟩
  · simp [noDict, noDictA, h1.nd, h2.nd, h3.nd]
  · simp [shw, shwA, h1.sh, h2.sh, h3.sh]
  · simp only [PyData.depth]
    exact Nat.succ_le_succ (depthAll_le fun w hw => by
      simp only [List.mem_cons, List.not_mem_nil, or_false] at hw
      rcases hw with rfl | rfl | rfl
      · exact h1.dp
      · exact h2.dp
      · exact h3.dp)
  · rw [PyData.shown, shownAll_map]
    have a := tupleText_le 0 ([a, b, c].map PyData.shown)
    have e1 := h1.ln
    have e2 := h2.ln
    have e3 := h3.ln
    simp only [List.map_cons, List.map_nil, lenS] at a ⊢
    omega
def FT.sz (m : Nat) : FT → Nat
  | add a b | sub a b | mul a b => a.sz m + b.sz m + 14
  | pow a _ => a.sz m + 35
  | _ => m + 3
theorem FT.shw {m : Nat} (hm : m ≤ 14000) (h0 : 0 < m) : ∀ {f : FT}, f.le m → f.e < 2 ^ 20 → Shw f.lev (f.sz m) f.pd
  | int i, h, _ => (Shw.int h hm h0).mono (Nat.le_refl _) (by simp only [sz]; omega)
  | x, _, _ => Shw.str (by show _ ≤ m + 3; exact Nat.le_trans (show (reprText "x").length ≤ 3 by decide +kernel) (by omega))
  | y, _, _ => Shw.str (by show _ ≤ m + 3; exact Nat.le_trans (show (reprText "y").length ≤ 3 by decide +kernel) (by omega))
  | add a b, h, he => by
    simp only [FT.e] at he
    have z := Shw.tup3 (n := max a.lev b.lev) (Shw.str (z := 5) (x := "add") (by decide +kernel)) ((shw hm h0 h.1 (by omega)).mono (Nat.le_max_left _ _) (Nat.le_refl _)) ((shw hm h0 h.2 (by omega)).mono (Nat.le_max_right _ _) (Nat.le_refl _))
    exact z.mono (Nat.le_refl _) (by simp only [sz]; omega)
  | sub a b, h, he => by
    simp only [FT.e] at he
    have z := Shw.tup3 (n := max a.lev b.lev) (Shw.str (z := 5) (x := "sub") (by decide +kernel)) ((shw hm h0 h.1 (by omega)).mono (Nat.le_max_left _ _) (Nat.le_refl _)) ((shw hm h0 h.2 (by omega)).mono (Nat.le_max_right _ _) (Nat.le_refl _))
    exact z.mono (Nat.le_refl _) (by simp only [sz]; omega)
  | mul a b, h, he => by
    simp only [FT.e] at he
    have z := Shw.tup3 (n := max a.lev b.lev) (Shw.str (z := 5) (x := "mul") (by decide +kernel)) ((shw hm h0 h.1 (by omega)).mono (Nat.le_max_left _ _) (Nat.le_refl _)) ((shw hm h0 h.2 (by omega)).mono (Nat.le_max_right _ _) (Nat.le_refl _))
    exact z.mono (Nat.le_refl _) (by simp only [sz]; omega)
  | pow a n, h, he => by
    simp only [FT.e] at he
    have e1 : a.e ≤ a.e * max 1 n := Nat.le_mul_of_pos_right _ (by omega)
    have e2 : max 1 n ≤ a.e * max 1 n := Nat.le_mul_of_pos_left _ a.e_pos
    have z := Shw.tup3 (n := a.lev) (Shw.str (z := 5) (x := "pow") (by decide +kernel)) (shw hm h0 (f := a) h (by omega)) (Shw.int (i := (n : Nat)) (k := 20) (by omega))
    exact z.mono (Nat.le_refl _) (by simp only [sz]; omega)
theorem FT.sz_le {m : Nat} : ∀ f : FT, f.sz m + 40 ≤ (m + 40) * 2 ^ f.lev
  | int _ => by simp only [sz, lev]; omega
  | x => by simp only [sz, lev]; omega
  | y => by simp only [sz, lev]; omega
  | add a b => key (sz_le a) (sz_le b)
  | sub a b => key (sz_le a) (sz_le b)
  | mul a b => key (sz_le a) (sz_le b)
  | pow a _ => by
    have h := sz_le (m := m) a
    simp only [sz, lev, Nat.pow_succ]
    have : 40 ≤ (m + 40) * 2 ^ a.lev := Nat.le_trans (by omega) (Nat.le_mul_of_pos_right _ (Nat.pow_pos (by decide)))
    rw [← Nat.mul_assoc]
    omega
where
  key {s t a b : Nat} (h1 : s + 40 ≤ (m + 40) * 2 ^ a) (h2 : t + 40 ≤ (m + 40) * 2 ^ b) : s + t + 14 + 40 ≤ (m + 40) * 2 ^ (max a b + 1) := by
    have x1 : (m + 40) * 2 ^ a ≤ (m + 40) * 2 ^ max a b := Nat.mul_le_mul_left _ (Nat.pow_le_pow_right (by decide) (Nat.le_max_left _ _))
    have x2 : (m + 40) * 2 ^ b ≤ (m + 40) * 2 ^ max a b := Nat.mul_le_mul_left _ (Nat.pow_le_pow_right (by decide) (Nat.le_max_right _ _))
    rw [Nat.pow_succ, ← Nat.mul_assoc]
    omega
theorem FT.drawn.shw {yy : Bool} {room deep : Nat} {f : FT} (h : f.drawn yy 140 room deep) (hr : room ≤ 1000) (hd : deep ≤ 16) : Shw 16 (180 * 2 ^ 16) f.pd := by
  have z := FT.shw (m := 140) (by decide) (by decide) h.2.2.1 (by have := h.2.1; omega)
  refine z.mono (Nat.le_trans h.1 hd) ?_
  have a := f.sz_le (m := 140)
  have b : (140 + 40) * 2 ^ f.lev ≤ 180 * 2 ^ 16 := Nat.mul_le_mul_left _ (Nat.pow_le_pow_right (by decide) (Nat.le_trans h.1 hd))
  omega
theorem FT.drawn.ok {yy : Bool} {room deep m : Nat} {f : FT} (h : f.drawn yy 140 room deep) (hm : 140 ≤ m) (hb : (deep + m) * room ≤ 100000) : f.ok m := by
  obtain ⟨h1, h2, h3, _⟩ := h
  refine ⟨?_, Nat.le_trans (Nat.mul_le_mul (by omega) h2) hb⟩
  have go : ∀ g : FT, g.le 140 → g.le m := fun g => by
    induction g with
    | int i => exact fun h => Nat.lt_of_lt_of_le h (Nat.pow_le_pow_right (by decide) hm)
    | x => exact id
    | y => exact id
    | add a b ha hb => exact fun h => ⟨ha h.1, hb h.2⟩
    | sub a b ha hb => exact fun h => ⟨ha h.1, hb h.2⟩
    | mul a b ha hb => exact fun h => ⟨ha h.1, hb h.2⟩
    | pow a n ha => exact ha
  exact go f h3
end DL
namespace DL
open PySem L2 PyProof.Rows
def S_clock : FSpec := ⟨fun args Q => ∃ (b : Nat) (dk : List PD), args = [.ls (some 0) dk] ∧ Dk (b + 7) dk ∧ ∀ (c : Nat) dk', 0 < c → c ≤ 2 ^ 100 → Dk b dk' → Q (.d (.int c)) [.ls (some 0) dk']⟩
def ClI (x : PD) : Prop := ∃ c : Nat, x = .int c ∧ 0 < c ∧ c ≤ 2 ^ 100
theorem clI {i : Int} (h0 : 0 < i) (h : i ≤ 2 ^ 100) : ClI (.int i) := ⟨i.toNat, by rw [Int.toNat_of_nonneg (by omega)], by omega, by omega⟩
theorem log2_const {i : Int} {k : Nat} (h : i.natAbs < 2 ^ k) (h0 : 0 < k := by decide) (hk : k ≤ 8000 := by decide) : i.natAbs.log2 < 8000 := Nat.lt_of_lt_of_le (log2_lt h h0) hk
abbrev N_law_clock_4333 : List Str := ["deck", "some"]
def ir_law_clock_4333 (S_law_draw_a51a : FSpec) (S_law_one_90da : FSpec) : TSt :=
  (sSeq (sAsg 1 (fLst (aCons (.e (dBin bAdd (.e (dC (.int 1))) (.e (dFz (fCall S_law_draw_a51a (aCons (.s 0) (aCons (.e (dC (.int 12))) aNil))))))) (aCons (.e (dBin bAdd (.e (dC (.int 1))) (.e (dFz (fCall S_law_draw_a51a (aCons (.s 0) (aCons (.e (dC (.int 60))) aNil))))))) (aCons (.e (dBin bShl (.e (dC (.int 1))) (.e (dFz (fCall S_law_draw_a51a (aCons (.s 0) (aCons (.e (dC (.int 100))) aNil))))))) (aCons (.e (dC (.int 720))) (aCons (.e (dC (.int 30030))) (aCons (.e (dBin bMulI (.e (dC (.int 2))) (.e (dBin bPow (.e (dC (.int 10))) (.e (dC (.int 12))))))) aNil))))))))
    (sSeq (sAsg 1 (fD (dBin bAdd (.s 1) (.e (dFz (fLst (aCons (.e (dBin bSub (.e (dBin bPow (.e (dC (.int 10))) (.e (dC (.int 30))))) (.e (dFz (fCall S_law_draw_a51a (aCons (.s 0) (aCons (.e (dC (.int 1000))) aNil))))))) (aCons (.e (dBin bAdd (.e (dC (.int 1))) (.e (dBin bMulI (.e (dFz (fCall S_law_draw_a51a (aCons (.s 0) (aCons (.e (dBin bPow (.e (dC (.int 10))) (.e (dC (.int 15))))) aNil))))) (.e (dFz (fCall S_law_draw_a51a (aCons (.s 0) (aCons (.e (dBin bPow (.e (dC (.int 10))) (.e (dC (.int 15))))) aNil))))))))) aNil))))))))
    (sRet (fCall S_law_one_90da (aCons (.s 0) (aCons (.e (dVar 1)) aNil))))))
theorem sp_clock : ∀ args Q, S_clock.sp args Q → ir_law_clock_4333 S_draw S_one (endsOf args Q) (rho0 N_law_clock_4333 args) := by
  rintro args Q ⟨b, dk, rfl, h, q⟩
  have e30 : (10 : Int) ^ (30 : Int).toNat = 1000000000000000000000000000000 := rfl
  have e15 : (10 : Int) ^ (15 : Int).toNat = 1000000000000000 := rfl
  have e12 : (10 : Int) ^ (12 : Int).toNat = 1000000000000 := rfl
  refine ⟨rfl, b + 6, dk, 12, rfl, h, ⟨by decide, by decide⟩, fun r1 dk1 a0 a1 d1 => ?_⟩
  refine ⟨rfl, b + 5, dk1, 60, rfl, d1, ⟨by decide, by decide⟩, fun r2 dk2 b0 b1 d2 => ?_⟩
  refine ⟨rfl, b + 4, dk2, 100, rfl, d2, ⟨by decide, by decide⟩, fun r3 dk3 c0 c1 d3 => ?_⟩
  refine ⟨⟨c0, by omega, by decide⟩, powOk (k := 4) (m := 12) (by decide) (by decide) (by decide), mulOk 2 50 (by decide) (by decide), powOk (k := 4) (m := 30) (by decide) (by decide) (by decide), ?_⟩
  refine ⟨rfl, b + 3, dk3, 1000, rfl, d3, ⟨by decide, by decide⟩, fun r4 dk4 f0 f1 d4 => ?_⟩
  refine ⟨powOk (k := 4) (m := 15) (by decide) (by decide) (by decide), rfl, b + 2, dk4, _, rfl, d4, ⟨by decide, by decide⟩, fun r5 dk5 g0 g1 d5 => ?_⟩
  refine ⟨powOk (k := 4) (m := 15) (by decide) (by decide) (by decide), rfl, b + 1, dk5, _, rfl, d5, ⟨by decide, by decide⟩, fun r6 dk6 h0 h1 d6 => ?_⟩
  rw [e15] at g1 h1
  refine ⟨mulOk 60 60 (by omega) (by omega), by show 6 + 2 ≤ sizeLine; rw [sizeLine_eq]; decide, ?_⟩
  refine ⟨rfl, b, dk6, _, rfl, d6, ⟨Nat.succ_pos _, by show 8 < 2 ^ 60; decide⟩, fun z dk7 hz d7 => ?_⟩
  have p3 : (1 : Int) * 2 ^ r3.toNat ≤ 2 ^ 100 := by
    rw [Int.one_mul]
    have : (2 : Nat) ^ r3.toNat ≤ 2 ^ 100 := Nat.pow_le_pow_right (by decide) (by omega)
    exact_mod_cast this
  have p3' : (0 : Int) < 1 * 2 ^ r3.toNat := by
    rw [Int.one_mul]; exact Int.pow_pos (by decide)
  have p5 : r5 * r6 ≤ 1000000000000000 * 1000000000000000 := Int.mul_le_mul (by omega) (by omega) h0 (by omega)
  have p5' : 0 ≤ r5 * r6 := Int.mul_nonneg g0 h0
  have all : ∀ x ∈ [PyData.int (1 + r1), .int (1 + r2), .int (1 * 2 ^ r3.toNat), .int 720, .int 30030, .int (2 * 10 ^ (12 : Int).toNat), .int (10 ^ (30 : Int).toNat - r4), .int (1 + r5 * r6)], ClI x := by
    simp only [List.forall_mem_cons]
    exact ⟨clI (by omega) (by omega), clI (by omega) (by omega), clI p3' p3, clI (by decide) (by decide), clI (by decide) (by decide), clI (by decide) (by decide), clI (by rw [e30]; omega) (by rw [e30]; omega), clI (by omega) (by omega), fun x hx => by cases hx⟩
  obtain ⟨c, rfl, k0, k1⟩ := all z hz
  exact q c dk7 k0 k1 d7
def S_far : FSpec := ⟨fun args Q => ∃ (b : Nat) (dk : List PD), args = [.ls (some 0) dk] ∧ Dk (b + 5) dk ∧ ∀ (i : Int) dk', i.natAbs < 2 ^ 200 → Dk b dk' → Q (.d (.int i)) [.ls (some 0) dk']⟩
abbrev N_law_far_43d2 : List Str := ["deck", "far"]
def ir_law_far_43d2 (S_law_draw_a51a : FSpec) (S_law_one_90da : FSpec) : TSt :=
  (sSeq (sAsg 1 (fD (dBin bAdd (.e (dBin bMulI (.e (dFz (fCall S_law_draw_a51a (aCons (.s 0) (aCons (.e (dBin bPow (.e (dC (.int 10))) (.e (dC (.int 30))))) aNil))))) (.e (dBin bPow (.e (dC (.int 10))) (.e (dC (.int 30))))))) (.e (dFz (fCall S_law_draw_a51a (aCons (.s 0) (aCons (.e (dBin bPow (.e (dC (.int 10))) (.e (dC (.int 30))))) aNil))))))))
    (sRet (fCall S_law_one_90da (aCons (.s 0) (aCons (.e (dFz (fLst (aCons (.e (dFz (fCall S_law_draw_a51a (aCons (.s 0) (aCons (.e (dC (.int 20))) aNil))))) (aCons (.e (dBin bSub (.e (dFz (fCall S_law_draw_a51a (aCons (.s 0) (aCons (.e (dC (.int 200))) aNil))))) (.e (dC (.int 100))))) (aCons (.e (dVar 1)) (aCons (.e (dNeg (.s 1))) aNil))))))) aNil)))))
theorem sp_far : ∀ args Q, S_far.sp args Q → ir_law_far_43d2 S_draw S_one (endsOf args Q) (rho0 N_law_far_43d2 args) := by
  rintro args Q ⟨b, dk, rfl, h, q⟩
  have e30 : (10 : Int) ^ (30 : Int).toNat = 1000000000000000000000000000000 := rfl
  refine ⟨powOk (k := 4) (m := 30) (by decide) (by decide) (by decide), rfl, b + 4, dk, _, rfl, h, ⟨by decide, by decide⟩, fun r1 dk1 a0 a1 d1 => ?_⟩
  rw [e30] at a1
  refine ⟨powOk (k := 4) (m := 30) (by decide) (by decide) (by decide), mulOk 100 100 (by omega) (by decide), powOk (k := 4) (m := 30) (by decide) (by decide) (by decide), rfl, b + 3, dk1, _, rfl, d1, ⟨by decide, by decide⟩, fun r2 dk2 b0 b1 d2 => ?_⟩
  rw [e30] at b1
  have far : (r1 * 10 ^ (30 : Int).toNat + r2).natAbs < 2 ^ 200 := by
    rw [e30]; omega
  obtain ⟨w, hw⟩ : ∃ w, w = r1 * 10 ^ (30 : Int).toNat + r2 := ⟨_, rfl⟩
  rw [← hw] at far
  refine ⟨rfl, b + 2, dk2, 20, rfl, d2, ⟨by decide, by decide⟩, fun r3 dk3 c0 c1 d3 => ?_⟩
  refine ⟨rfl, b + 1, dk3, 200, rfl, d3, ⟨by decide, by decide⟩, fun r4 dk4 f0 f1 d4 => ?_⟩
  refine ⟨rfl, b, dk4, _, rfl, d4, ⟨Nat.succ_pos _, by show 4 < 2 ^ 60; decide⟩, fun z dk5 hz d5 => ?_⟩
  rw [← hw] at hz
  have all : ∀ x ∈ [PyData.int r3, .int (r4 - 100), .int w, .int (-w)], ∃ i : Int, x = .int i ∧ i.natAbs < 2 ^ 200 := by
    simp only [List.forall_mem_cons]
    exact ⟨⟨_, rfl, by omega⟩, ⟨_, rfl, by omega⟩, ⟨_, rfl, far⟩, ⟨_, rfl, by omega⟩, fun x hx => by cases hx⟩
  obtain ⟨i, rfl, hi⟩ := all z hz
  exact q i dk5 hi d5
theorem emod_pow {a b c : Int} (h : a % c = b % c) : ∀ n : Nat, a ^ n % c = b ^ n % c
  | 0 => by rw [Int.pow_zero, Int.pow_zero]
  | n + 1 => by rw [Int.pow_succ, Int.pow_succ, Int.mul_emod, emod_pow h n, h, ← Int.mul_emod]
theorem FT.val_cong {c u u' v v' : Int} (hu : u % c = u' % c) (hv : v % c = v' % c) : ∀ f : FT, f.val u v % c = f.val u' v' % c
  | int i => rfl
  | x => hu
  | y => hv
  | add a b => by simp only [val]; rw [Int.add_emod, val_cong hu hv a, val_cong hu hv b, ← Int.add_emod]
  | sub a b => by simp only [val]; rw [Int.sub_emod, val_cong hu hv a, val_cong hu hv b, ← Int.sub_emod]
  | mul a b => by simp only [val]; rw [Int.mul_emod, val_cong hu hv a, val_cong hu hv b, ← Int.mul_emod]
  | pow a n => by simp only [val]; exact emod_pow (val_cong hu hv a) n
theorem lets_xy : Lets true [FT.x.pd, FT.y.pd] := ⟨by decide, by decide, fun l hl => by
  simp only [List.mem_cons, List.not_mem_nil, or_false] at hl
  rcases hl with h | h
  · exact .inl h
  · exact .inr ⟨rfl, h⟩⟩
end DL
namespace DL
open PySem L2 PyProof.Rows
def natAt (i : Nat) (ρ : En) : Nat := match ρ[i]? with
  | some (some (.d (.int n))) => n.toNat
  | _ => 0
def S_common : FSpec := ⟨fun args Q => ∃ a b : Nat, args = [.d (.int a), .d (.int b)] ∧ Q (.d (.int (Nat.gcd a b))) []⟩
abbrev N_law_common_ae84 : List Str := ["one", "other"]
def ir_law_common_ae84 : TSt :=
  (sSeq (sWhile (tVal (dBin cGt (.s 1) (.e (dC (.int 0))))) (sPar 0 1 (fD (dVar 1)) (fD (dBin bMod (.e (dBi bInt (aCons (.s 0) aNil))) (.s 1)))))
    (sRetV 0))
theorem gcd_turn {x y : Nat} (h : 0 < y) : Nat.gcd y (x % y) = Nat.gcd x y := by
  rw [Nat.gcd_comm x y, Nat.gcd_rec y x, Nat.gcd_comm]
theorem sp_law_common : ∀ args Q, S_common.sp args Q → ir_law_common_ae84 (endsOf args Q) (rho0 N_law_common_ae84 args) := by
  rintro args Q ⟨a, b, rfl, q⟩
  refine ⟨fun ρ => ∃ x y : Nat, ρ = [some (.d (.int x)), some (.d (.int y))] ∧ Nat.gcd x y = Nat.gcd a b, natAt 1, ⟨a, b, rfl, rfl⟩, ?_⟩
  rintro ρ ⟨x, y, rfl, hg⟩
  refine ⟨fun h => ?_, fun h => ?_⟩
  · have hy : (0 : Int) < (y : Int) := of_decide_eq_true h
    refine ⟨hy, ⟨y, x % y, by rw [Int.natCast_emod]; rfl, ?_⟩, ?_⟩
    · rw [gcd_turn (by omega)]; exact hg
    · show ((x : Int) % (y : Int)).toNat < ((y : Nat) : Int).toNat
      have h1 := Int.emod_lt_of_pos (x : Int) hy
      have h2 := Int.emod_nonneg (x : Int) (b := (y : Int)) (by omega)
      omega
  · have hy : ¬ (0 : Int) < (y : Int) := of_decide_eq_false h
    have : y = 0 := by omega
    subst this
    rw [Nat.gcd_zero_right] at hg
    subst hg
    exact q
def fallI (x : Int) : Nat → Int
  | 0 => 1
  | n + 1 => fallI x n * (x - (n : Nat))
theorem fallI_small {x : Int} {m : Nat} : ∀ {n : Nat}, x.natAbs + n < 2 ^ m → (fallI x n).natAbs < 2 ^ (m * n + 1)
  | 0, _ => by show (1 : Int).natAbs < _; simp
  | n + 1, h => by
    have a := fallI_small (x := x) (m := m) (n := n) (by omega)
    have b : (x - (n : Nat)).natAbs < 2 ^ m := by omega
    exact two_mul a b (by rw [Nat.mul_add]; omega)
def S_falling : FSpec := ⟨fun args Q => ∃ (x : Int) (n m : Nat), args = [.d (.int x), .d (.int n)] ∧ x.natAbs + n < 2 ^ m ∧ 0 < m ∧ n ≤ 100000 ∧ m * n + m ≤ 400000 ∧ Q (.d (.int (fallI x n))) []⟩
abbrev N_law_falling_d92b : List Str := ["x", "many", "found", "k"]
def ir_law_falling_d92b : TSt :=
  (sSeq (sAsg 2 (fD (dC (.int 1))))
    (sSeq (sFor (iRg (aCons (.s 1) aNil)) (.nm 3) (sAsg 2 (fD (dBin bMulI (.s 2) (.e (dBin bSub (.s 0) (.s 3)))))))
    (sRetV 2)))
theorem sp_law_falling : ∀ args Q, S_falling.sp args Q → ir_law_falling_d92b (endsOf args Q) (rho0 N_law_falling_d92b args) := by
  rintro args Q ⟨x, n, m, rfl, h1, h2, h3, h4, q⟩
  refine ⟨by omega, _, rfl, fun i ρ => ∃ t, ρ = [some (.d (.int x)), some (.d (.int n)), some (.d (.int (fallI x i))), t], ⟨none, rfl⟩, ?_, ?_⟩
  · rintro i y ρ hx ⟨t, rfl⟩
    obtain ⟨rfl, hi⟩ := rngD_get hx
    have hi : i < n := hi
    have e : (0 : Int) + (i : Nat) = (i : Nat) := by omega
    rw [e]
    refine ⟨mulOk (m * i + 1) m (fallI_small (by omega)) (by omega) ?_ (by omega) h2, ?_⟩
    · have : m * i ≤ m * n := Nat.mul_le_mul_left _ (by omega)
      omega
    · exact ⟨_, rfl⟩
  · rintro ρ ⟨t, rfl⟩
    rw [rngD_len]
    exact q
theorem fallI_fact : ∀ (n k : Nat), fallI ((n + k : Nat) : Int) n > 0
  | 0, _ => by show (0 : Int) < 1; decide
  | n + 1, k => by
    have h := fallI_fact n (k + 1)
    rw [show n + (k + 1) = n + 1 + k by omega] at h
    exact Int.mul_pos h (by omega)
def FT.deg : FT → Nat
  | int _ => 0
  | x => 1
  | y => 1
  | add a b | sub a b => max a.deg b.deg
  | mul a b => a.deg + b.deg
  | pow a n => a.deg * n
theorem FT.deg_le : ∀ f : FT, f.deg ≤ f.e
  | int _ => Nat.zero_le _
  | x => Nat.le_refl _
  | y => Nat.le_refl _
  | add a b => by have := a.deg_le; have := b.deg_le; simp only [deg, e]; omega
  | sub a b => by have := a.deg_le; have := b.deg_le; simp only [deg, e]; omega
  | mul a b => by have := a.deg_le; have := b.deg_le; simp only [deg, e]; omega
  | pow a n => by
    simp only [deg, e]
    exact Nat.mul_le_mul a.deg_le (by omega)
def FT.ok2 (f : FT) : Prop := f.lev ≤ 17 ∧ f.e ≤ 20 ∧ f.le 140 ∧ f.deg ≤ 16 ∧ f.sz 140 ≤ 100000
end DL
namespace DL
open PySem L2 PyProof.Rows
end DL
namespace DL
theorem emod_iff {a b c : Int} : a % c = b % c ↔ c ∣ a - b := by
  rw [Int.emod_eq_emod_iff_emod_sub_eq_zero, ← Int.dvd_iff_emod_eq_zero]
def prodC : List Nat → Nat
  | [] => 1
  | c :: r => c * prodC r
def Cops (cs : List Nat) : Prop := cs.Pairwise fun a b => Nat.gcd a b = 1
theorem cop_prod {a : Nat} : ∀ {cs : List Nat}, (∀ c ∈ cs, Nat.gcd a c = 1) → Nat.gcd a (prodC cs) = 1
  | [], _ => Nat.gcd_one_right _
  | c :: r, h => by
    have h1 : Nat.Coprime a c := h c List.mem_cons_self
    have h2 : Nat.Coprime a (prodC r) := cop_prod fun x hx => h x (List.mem_cons_of_mem _ hx)
    exact h1.mul_right h2
theorem dvd_prod {z : Int} : ∀ {cs : List Nat}, Cops cs → (∀ c ∈ cs, (c : Int) ∣ z) → ((prodC cs : Nat) : Int) ∣ z
  | [], _, _ => ⟨z, by simp [prodC]⟩
  | c :: r, h, d => by
    obtain ⟨h1, h2⟩ := List.pairwise_cons.mp h
    have d1 : c ∣ z.natAbs := Int.ofNat_dvd_left.mp (d c List.mem_cons_self)
    have d2 : prodC r ∣ z.natAbs := Int.ofNat_dvd_left.mp (dvd_prod h2 fun x hx => d x (List.mem_cons_of_mem _ hx))
    have g : Nat.Coprime c (prodC r) := cop_prod h1
    exact Int.ofNat_dvd_left.mpr (g.mul_dvd_of_dvd_of_dvd d1 d2)
theorem dvd_prodC : ∀ {cs : List Nat} {c : Nat}, c ∈ cs → c ∣ prodC cs
  | a :: r, c, h => by
    rcases List.mem_cons.mp h with rfl | h
    · exact Nat.dvd_mul_right _ _
    · exact Nat.dvd_trans (dvd_prodC h) (Nat.dvd_mul_left _ _)
theorem prodC_snoc (a : Nat) : ∀ cs : List Nat, prodC (cs ++ [a]) = prodC cs * a
  | [] => by simp [prodC]
  | q :: r => by
    show q * prodC (r ++ [a]) = q * prodC r * a
    rw [prodC_snoc a r, Nat.mul_assoc]
def Crt (cs : List Nat) (rs : List Int) (e : Int) : Prop := 0 ≤ e ∧ e < (prodC cs : Nat) ∧ ∀ (j c : Nat) (r : Int), cs[j]? = some c → rs[j]? = some r → e % (c : Int) = r % (c : Int)
theorem Crt.nil : Crt [] [] 0 := ⟨Int.le_refl 0, by decide, fun j c r h => by simp at h⟩
theorem Crt.snoc {cs : List Nat} {rs : List Int} {e : Int} {c : Nat} {r v : Int} (h : Crt cs rs e) (hl : rs.length = cs.length) (c0 : 0 < c) (hv : ((prodC cs : Nat) : Int) * v % (c : Int) = 1 % (c : Int)) :
    Crt (cs ++ [c]) (rs ++ [r]) (e + ((prodC cs : Nat) : Int) * ((r - e) * v % (c : Int))) := by
  obtain ⟨e0, e1, ee⟩ := h
  obtain ⟨W, hW⟩ : ∃ W : Int, W = ((prodC cs : Nat) : Int) := ⟨_, rfl⟩
  obtain ⟨u, hu⟩ : ∃ u : Int, u = (r - e) * v % (c : Int) := ⟨_, rfl⟩
  have u0 : 0 ≤ u := by rw [hu]; exact Int.emod_nonneg _ (by omega)
  have u1 : u < c := by rw [hu]; exact Int.emod_lt_of_pos _ (by omega)
  have W0 : 0 ≤ W := by rw [hW]; omega
  rw [← hW] at e1 hv ⊢
  rw [← hu]
  refine ⟨Int.add_nonneg e0 (Int.mul_nonneg W0 u0), ?_, fun j d q hj hq => ?_⟩
  · have e2 : ((prodC (cs ++ [c]) : Nat) : Int) = W * c := by rw [prodC_snoc, hW]; exact_mod_cast rfl
    rw [e2]
    have : W * u + W ≤ W * c := by
      rw [show W * u + W = W * (u + 1) by grind]
      exact Int.mul_le_mul_of_nonneg_left (by omega) W0
    omega
  · rcases Nat.lt_or_ge j cs.length with hjl | hjl
    · rw [List.getElem?_append_left hjl] at hj
      rw [List.getElem?_append_left (by omega)] at hq
      have a := ee j d q hj hq
      have dv : (d : Int) ∣ W := by rw [hW]; exact Int.natCast_dvd_natCast.mpr (dvd_prodC (List.mem_of_getElem? hj))
      rw [← a]
      exact emod_iff.mpr ⟨W / d * u, by
        have := Int.mul_ediv_cancel' dv
        rw [← Int.mul_assoc, this]; omega⟩
    · rw [List.getElem?_append_right hjl] at hj
      rw [List.getElem?_append_right (by omega)] at hq
      have j0 : j - cs.length = 0 := by
        rcases Nat.eq_zero_or_pos (j - cs.length) with z | z
        · exact z
        · rw [List.getElem?_eq_none (by simp; omega)] at hj; cases hj
      rw [j0] at hj
      rw [hl, j0] at hq
      cases hj
      cases hq
      have a : W * u % (c : Int) = (r - e) % (c : Int) := by
        have z : (r - e) * v % (c : Int) % (c : Int) = (r - e) * v % (c : Int) := Int.emod_emod_of_dvd _ (Int.dvd_refl _)
        rw [hu, Int.mul_emod, z, ← Int.mul_emod, show W * ((r - e) * v) = (r - e) * (W * v) by grind, Int.mul_emod, hv, ← Int.mul_emod, Int.mul_one]
      rw [Int.add_emod, a, ← Int.add_emod]
      congr 1
      omega
def Met (ns : List Int) (a b : Nat) : Prop := a < b ∧ b < ns.length ∧ ns[a]? = ns[b]? ∧ (ns.take b).Nodup
theorem nodup_at {ns : List Int} {a b : Nat} (h : ns.Nodup) (hb : b < ns.length) (hab : a < b) (e : ns[a]? = ns[b]?) : False := by
  rw [List.getElem?_eq_getElem (by omega), List.getElem?_eq_getElem hb] at e
  exact List.pairwise_iff_getElem.mp h a b (by omega) hb hab (Option.some.inj e)
theorem Met.not {ns : List Int} {a b : Nat} (h : Met ns a b) : ¬ ns.Nodup := fun z => nodup_at z h.2.1 h.1 h.2.2.1
theorem Crt.ends {cs : List Nat} {rs rs' : List Int} {e e' : Int} {k c : Nat} {a a' : Int} (h : Crt cs rs e) (h' : Crt cs rs' e') (hk : cs[k]? = some c) (hr : rs[k]? = some a) (hr' : rs'[k]? = some a') (hne : ¬ a % (c : Int) = a' % (c : Int)) : e ≠ e' := fun z => by
  subst z
  have x := h.2.2 k c a hk hr
  have y := h'.2.2 k c a' hk hr'
  exact hne (x.symm.trans y)
end DL
namespace DL
open PySem L2 PyProof.Rows
theorem fall_shift (x : Int) : ∀ n : Nat, fallI (x + 1) (n + 1) = (x + 1) * fallI x n
  | 0 => by simp [fallI]
  | n + 1 => by
    rw [fallI, fall_shift x n, fallI]
    have : ((n + 1 : Nat) : Int) = (n : Int) + 1 := by omega
    rw [this]
    grind
theorem fall_diff (x : Int) (n : Nat) : fallI (x + 1) (n + 1) - fallI x (n + 1) = ((n : Int) + 1) * fallI x n := by
  rw [fall_shift, fallI]
  grind
theorem fall_zero : ∀ n : Nat, fallI 0 (n + 1) = 0
  | 0 => by simp [fallI]
  | n + 1 => by rw [fallI, fall_zero n, Int.zero_mul]
theorem fall_self_pos (n : Nat) : 0 < fallI (n : Nat) n := by have := fallI_fact n 0; simpa using this
theorem fall_over : ∀ {i k : Nat}, i < k → fallI (i : Nat) k = 0
  | i, k + 1, h => by
    rw [fallI]
    by_cases e : i = k
    · subst e; rw [Int.sub_self, Int.mul_zero]
    · rw [fall_over (i := i) (k := k) (by omega), Int.zero_mul]
abbrev F2I := Int → Int → Int
def dX (f : F2I) : F2I := fun x y => f (x + 1) y - f x y
def dY (f : F2I) : F2I := fun x y => f x (y + 1) - f x y
def itX : Nat → F2I → F2I
  | 0, f => f
  | n + 1, f => dX (itX n f)
def itY : Nat → F2I → F2I
  | 0, f => f
  | n + 1, f => dY (itY n f)
def dd (i j : Nat) (f : F2I) : Int := itX i (itY j f) 0 0
def addF (f g : F2I) : F2I := fun x y => f x y + g x y
theorem itX_add (f g : F2I) : ∀ n, itX n (addF f g) = addF (itX n f) (itX n g)
  | 0 => rfl
  | n + 1 => by
    rw [itX, itX_add f g n, itX, itX]
    funext x y
    simp only [dX, addF]
    omega
theorem itY_add (f g : F2I) : ∀ n, itY n (addF f g) = addF (itY n f) (itY n g)
  | 0 => rfl
  | n + 1 => by
    rw [itY, itY_add f g n, itY, itY]
    funext x y
    simp only [dY, addF]
    omega
theorem dd_add (i j : Nat) (f g : F2I) : dd i j (addF f g) = dd i j f + dd i j g := by
  unfold dd
  rw [itY_add, itX_add]
  rfl
def trm (c : Int) (i j : Nat) : F2I := fun x y => c * fallI x i * fallI y j
theorem itX_trm (c : Int) (i j : Nat) : ∀ k, itX k (trm c i j) = trm (c * fallI (i : Nat) k) (i - k) j
  | 0 => by simp [itX, fallI]
  | k + 1 => by
    rw [itX, itX_trm c i j k]
    funext x y
    simp only [dX, trm, fallI]
    by_cases h : k < i
    · obtain ⟨m, rfl⟩ : ∃ m, i = k + 1 + m := ⟨i - k - 1, by omega⟩
      rw [show k + 1 + m - k = m + 1 by omega, show k + 1 + m - (k + 1) = m by omega]
      have d := fall_diff x m
      have e : (((k + 1 + m : Nat) : Int) - (k : Nat)) = (m : Int) + 1 := by omega
      rw [e]
      grind
    · rw [show i - k = 0 by omega, show i - (k + 1) = 0 by omega]
      have z : fallI (i : Nat) k * ((i : Nat) - (k : Nat) : Int) = 0 := by
        by_cases e : i = k
        · subst e; rw [Int.sub_self, Int.mul_zero]
        · rw [fall_over (by omega), Int.zero_mul]
      rw [z]
      simp [fallI]
theorem itY_trm (c : Int) (i j : Nat) : ∀ k, itY k (trm c i j) = trm (c * fallI (j : Nat) k) i (j - k)
  | 0 => by simp [itY, fallI]
  | k + 1 => by
    rw [itY, itY_trm c i j k]
    funext x y
    simp only [dY, trm, fallI]
    by_cases h : k < j
    · obtain ⟨m, rfl⟩ : ∃ m, j = k + 1 + m := ⟨j - k - 1, by omega⟩
      rw [show k + 1 + m - k = m + 1 by omega, show k + 1 + m - (k + 1) = m by omega]
      have d := fall_diff y m
      have e : (((k + 1 + m : Nat) : Int) - (k : Nat)) = (m : Int) + 1 := by omega
      rw [e]
      grind
    · rw [show j - k = 0 by omega, show j - (k + 1) = 0 by omega]
      have z : fallI (j : Nat) k * ((j : Nat) - (k : Nat) : Int) = 0 := by
        by_cases e : j = k
        · subst e; rw [Int.sub_self, Int.mul_zero]
        · rw [fall_over (by omega), Int.zero_mul]
      rw [z]
      simp [fallI]
theorem dd_trm (c : Int) (i j k l : Nat) : dd k l (trm c i j) = if k = i ∧ l = j then c * (fallI (i : Nat) i * fallI (j : Nat) j) else 0 := by
  unfold dd
  rw [itY_trm, itX_trm]
  simp only [trm]
  by_cases h1 : k = i
  · by_cases h2 : l = j
    · subst h1; subst h2
      rw [if_pos ⟨rfl, rfl⟩, Nat.sub_self, Nat.sub_self]
      simp only [fallI]
      grind
    · rw [if_neg fun z => h2 z.2]
      by_cases h3 : l < j
      · obtain ⟨m, e⟩ : ∃ m, j - l = m + 1 := ⟨j - l - 1, by omega⟩
        rw [e, fall_zero, Int.mul_zero]
      · rw [fall_over (i := j) (k := l) (by omega)]
        simp
  · rw [if_neg fun z => h1 z.1]
    by_cases h3 : k < i
    · obtain ⟨m, e⟩ : ∃ m, i - k = m + 1 := ⟨i - k - 1, by omega⟩
      rw [e, fall_zero]
      simp
    · rw [fall_over (i := i) (k := k) (by omega)]
      simp
inductive Pol (d : Nat) : F2I → Prop
  | trm (c : Int) (i j : Nat) : i + j ≤ d → Pol d (trm c i j)
  | add {f g : F2I} : Pol d f → Pol d g → Pol d (addF f g)
theorem Pol.mono {d e : Nat} {f : F2I} (h : Pol d f) (he : d ≤ e) : Pol e f := by
  induction h with
  | trm c i j h => exact .trm c i j (by omega)
  | add _ _ a b => exact .add a b
theorem Pol.mulX {d : Nat} {f : F2I} (h : Pol d f) (a : Int) : Pol (d + 1) (fun x y => f x y * (x - a)) := by
  induction h with
  | trm c i j h =>
    have e : (fun x y => DL.trm c i j x y * (x - a)) = addF (DL.trm c (i + 1) j) (DL.trm (c * ((i : Int) - a)) i j) := by
      funext x y
      simp only [DL.trm, addF, fallI]
      grind
    rw [e]
    exact .add (.trm _ _ _ (by omega)) (.trm _ _ _ (by omega))
  | @add f g _ _ p q =>
    have e : (fun x y => addF f g x y * (x - a)) = addF (fun x y => f x y * (x - a)) (fun x y => g x y * (x - a)) := by
      funext x y
      simp only [addF]
      grind
    rw [e]
    exact .add p q
theorem Pol.mulY {d : Nat} {f : F2I} (h : Pol d f) (a : Int) : Pol (d + 1) (fun x y => f x y * (y - a)) := by
  induction h with
  | trm c i j h =>
    have e : (fun x y => DL.trm c i j x y * (y - a)) = addF (DL.trm c i (j + 1)) (DL.trm (c * ((j : Int) - a)) i j) := by
      funext x y
      simp only [DL.trm, addF, fallI]
      grind
    rw [e]
    exact .add (.trm _ _ _ (by omega)) (.trm _ _ _ (by omega))
  | @add f g _ _ p q =>
    have e : (fun x y => addF f g x y * (y - a)) = addF (fun x y => f x y * (y - a)) (fun x y => g x y * (y - a)) := by
      funext x y
      simp only [addF]
      grind
    rw [e]
    exact .add p q
theorem Pol.mulC {d : Nat} {f : F2I} (h : Pol d f) (a : Int) : Pol d (fun x y => f x y * a) := by
  induction h with
  | trm c i j h =>
    have e : (fun x y => DL.trm c i j x y * a) = DL.trm (c * a) i j := by
      funext x y
      simp only [DL.trm]
      grind
    rw [e]
    exact .trm _ _ _ h
  | @add f g _ _ p q =>
    have e : (fun x y => addF f g x y * a) = addF (fun x y => f x y * a) (fun x y => g x y * a) := by
      funext x y
      simp only [addF]
      grind
    rw [e]
    exact .add p q
theorem Pol.mulFX {d : Nat} {f : F2I} (h : Pol d f) : ∀ n : Nat, Pol (d + n) (fun x y => f x y * fallI x n)
  | 0 => by
    have e : (fun x y => f x y * fallI x 0) = f := by funext x y; simp [fallI]
    rw [e]; exact h
  | n + 1 => by
    have e : (fun x y => f x y * fallI x (n + 1)) = fun x y => (f x y * fallI x n) * (x - (n : Nat)) := by funext x y; rw [fallI, Int.mul_assoc]
    rw [e]
    exact (Pol.mulFX h n).mulX _
theorem Pol.mulFY {d : Nat} {f : F2I} (h : Pol d f) : ∀ n : Nat, Pol (d + n) (fun x y => f x y * fallI y n)
  | 0 => by
    have e : (fun x y => f x y * fallI y 0) = f := by funext x y; simp [fallI]
    rw [e]; exact h
  | n + 1 => by
    have e : (fun x y => f x y * fallI y (n + 1)) = fun x y => (f x y * fallI y n) * (y - (n : Nat)) := by funext x y; rw [fallI, Int.mul_assoc]
    rw [e]
    exact (Pol.mulFY h n).mulY _
theorem Pol.mul {d e : Nat} {f g : F2I} (hf : Pol d f) (hg : Pol e g) : Pol (d + e) (fun x y => f x y * g x y) := by
  induction hg with
  | trm c i j h =>
    have q : (fun x y => f x y * DL.trm c i j x y) = fun x y => (f x y * c * fallI x i) * fallI y j := by
      funext x y
      simp only [DL.trm]
      grind
    rw [q]
    exact (((hf.mulC c).mulFX i).mulFY j).mono (by omega)
  | @add g1 g2 _ _ p q =>
    have w : (fun x y => f x y * addF g1 g2 x y) = addF (fun x y => f x y * g1 x y) (fun x y => f x y * g2 x y) := by
      funext x y
      simp only [addF]
      grind
    rw [w]
    exact .add p q
theorem Pol.const (c : Int) : Pol 0 (fun _ _ => c) := by
  have e : (fun _ _ => c : F2I) = DL.trm c 0 0 := by funext x y; simp [DL.trm, fallI]
  rw [e]; exact .trm _ _ _ (by decide)
theorem Pol.pow {d : Nat} {f : F2I} (h : Pol d f) : ∀ n : Nat, Pol (d * n) (fun x y => f x y ^ n)
  | 0 => by
    have e : (fun x y => f x y ^ 0) = fun _ _ => (1 : Int) := by funext x y; rw [Int.pow_zero]
    rw [e, Nat.mul_zero]; exact .const 1
  | n + 1 => by
    have e : (fun x y => f x y ^ (n + 1)) = fun x y => f x y ^ n * f x y := by funext x y; rw [Int.pow_succ]
    rw [e, Nat.mul_succ]
    exact (Pol.pow h n).mul h
theorem FT.pol : ∀ f : FT, Pol f.deg (fun u v => f.val u v)
  | int i => Pol.const i
  | x => by
    have e : (fun u v => FT.x.val u v) = trm 1 1 0 := by funext u v; simp [val, trm, fallI]
    rw [e]; exact .trm _ _ _ (by decide)
  | y => by
    have e : (fun u v => FT.y.val u v) = trm 1 0 1 := by funext u v; simp [val, trm, fallI]
    rw [e]; exact .trm _ _ _ (by decide)
  | add a b => .add (a.pol.mono (Nat.le_max_left _ _)) (b.pol.mono (Nat.le_max_right _ _))
  | sub a b => by
    have e : (fun u v => (sub a b).val u v) = addF (fun u v => a.val u v) (fun u v => b.val u v * (-1)) := by
      funext u v
      simp only [val, addF]
      omega
    rw [e]
    exact .add (a.pol.mono (Nat.le_max_left _ _)) ((b.pol.mulC (-1)).mono (Nat.le_max_right _ _))
  | mul a b => a.pol.mul b.pol
  | pow a n => a.pol.pow n
def fac2 (i j : Nat) : Int := fallI (i : Nat) i * fallI (j : Nat) j
theorem fac2_pos (i j : Nat) : 0 < fac2 i j := Int.mul_pos (fall_self_pos i) (fall_self_pos j)
theorem Pol.dvd {d : Nat} {f : F2I} (h : Pol d f) (i j : Nat) : fac2 i j ∣ dd i j f := by
  induction h with
  | trm c a b _ =>
    rw [dd_trm]
    split
    · rename_i e; obtain ⟨rfl, rfl⟩ := e; exact ⟨c, by rw [Int.mul_comm]; rfl⟩
    · exact Int.dvd_zero _
  | add _ _ p q => rw [dd_add]; exact Int.dvd_add p q
theorem Pol.zero {d : Nat} {f : F2I} (h : Pol d f) {i j : Nat} (hd : d < i + j) : dd i j f = 0 := by
  induction h with
  | trm c a b hab =>
    rw [dd_trm, if_neg]
    rintro ⟨rfl, rfl⟩
    omega
  | add _ _ p q => rw [dd_add, p, q]; rfl
def cof (f : F2I) (i j : Nat) : Int := dd i j f / fac2 i j
theorem cof_add {d : Nat} {f g : F2I} (hf : Pol d f) (hg : Pol d g) (i j : Nat) : cof (addF f g) i j = cof f i j + cof g i j := by
  unfold cof
  rw [dd_add, Int.add_ediv_of_dvd_left (hf.dvd i j)]
theorem cof_trm (c : Int) (a b i j : Nat) : cof (trm c a b) i j = if i = a ∧ j = b then c else 0 := by
  unfold cof
  rw [dd_trm]
  split
  · rename_i e; obtain ⟨rfl, rfl⟩ := e
    exact Int.mul_ediv_cancel _ (Int.ne_of_gt (fac2_pos i j))
  · exact Int.zero_ediv _
def sumN : Nat → (Nat → Int) → Int
  | 0, _ => 0
  | n + 1, g => sumN n g + g n
theorem sumN_add (f g : Nat → Int) : ∀ n, sumN n (fun i => f i + g i) = sumN n f + sumN n g
  | 0 => rfl
  | n + 1 => by rw [sumN, sumN_add f g n, sumN, sumN]; omega
theorem sumN_zero {f : Nat → Int} : ∀ {n : Nat}, (∀ i, i < n → f i = 0) → sumN n f = 0
  | 0, _ => rfl
  | n + 1, h => by rw [sumN, sumN_zero fun i hi => h i (by omega), h n (by omega)]; rfl
theorem sumN_congr {f g : Nat → Int} : ∀ {n : Nat}, (∀ i, i < n → f i = g i) → sumN n f = sumN n g
  | 0, _ => rfl
  | n + 1, h => by rw [sumN, sumN, sumN_congr fun i hi => h i (by omega), h n (by omega)]
theorem sumN_one {f : Nat → Int} {k : Nat} : ∀ {n : Nat}, k < n → (∀ i, i ≠ k → f i = 0) → sumN n f = f k
  | n + 1, h, z => by
    rw [sumN]
    by_cases e : k = n
    · subst e; rw [sumN_zero fun i hi => z i (by omega), Int.zero_add]
    · rw [sumN_one (n := n) (by omega) z, z n (by omega), Int.add_zero]
theorem Pol.whole {d N : Nat} {f : F2I} (h : Pol d f) (hN : d < N) (x y : Int) : f x y = sumN N fun i => sumN N fun j => cof f i j * fallI x i * fallI y j := by
  induction h with
  | trm c a b hab =>
    rw [sumN_one (k := a) (by omega)]
    · rw [sumN_one (k := b) (by omega)]
      · rw [cof_trm, if_pos ⟨rfl, rfl⟩]; rfl
      · intro j hj; rw [cof_trm, if_neg fun z => hj z.2, Int.zero_mul, Int.zero_mul]
    · intro i hi
      exact sumN_zero fun j _ => by rw [cof_trm, if_neg fun z => hi z.1, Int.zero_mul, Int.zero_mul]
  | @add f g hf hg p q =>
    have e : (fun i => sumN N fun j => cof (addF f g) i j * fallI x i * fallI y j) = fun i => (sumN N fun j => cof f i j * fallI x i * fallI y j) + sumN N fun j => cof g i j * fallI x i * fallI y j := by
      funext i
      rw [← sumN_add]
      exact sumN_congr fun j _ => by rw [cof_add hf hg]; grind
    rw [e, sumN_add, ← p, ← q]
    rfl
end DL
namespace DL
open PySem L2 PyProof.Rows
theorem fall_fact (n : Nat) : fallI ((n + 1 : Nat) : Int) (n + 1) = ((n + 1 : Nat) : Int) * fallI (n : Nat) n := by
  have := fall_shift (n : Int) n
  rw [show ((n + 1 : Nat) : Int) = (n : Int) + 1 by omega]
  exact this
theorem fact_small {n : Nat} (h : n ≤ 1000) : (fallI (n : Nat) n).natAbs < 2 ^ (11 * n + 1) := fallI_small (by omega)
def S_factorial : FSpec := ⟨fun args Q => ∃ n : Nat, args = [.d (.int n)] ∧ n ≤ 1000 ∧ Q (.d (.int (fallI (n : Nat) n))) []⟩
abbrev N_factorial : List Str := ["number", "found", "k"]
def ir_factorial : TSt :=
  (sSeq (sAsg 1 (fD (dC (.int 1))))
    (sSeq (sFor (iRg (aCons (.e (dC (.int 2))) (aCons (.e (dBin bAdd (.s 0) (.e (dC (.int 1))))) aNil))) (.nm 2) (sAsg 1 (fD (dBin bMulI (.s 1) (.s 2)))))
    (sRetV 1)))
theorem sp_factorial : ∀ args Q, S_factorial.sp args Q → ir_factorial (endsOf args Q) (rho0 N_factorial args) := by
  rintro args Q ⟨n, rfl, hn, q⟩
  refine ⟨⟨by decide, by decide, by omega, by omega⟩, _, rfl, fun i ρ => ∃ t, ρ = [some (.d (.int n)), some (.d (.int (fallI ((i + 1 : Nat) : Int) (i + 1)))), t], ⟨none, rfl⟩, ?_, ?_⟩
  · rintro i y ρ hx ⟨t, rfl⟩
    obtain ⟨rfl, hi⟩ := rngD_get hx
    have hi : i < ((n : Int) + 1 - 2).toNat := hi
    have e : (2 : Int) + (i : Nat) = ((i + 1 + 1 : Nat) : Int) := by omega
    rw [e]
    refine ⟨mulOk (11 * (i + 1) + 1) 20 (fact_small (by omega)) (by omega) (by omega) (by omega) (by decide), ?_⟩
    refine ⟨some (.d (.int ((i + 1 + 1 : Nat) : Int))), ?_⟩
    rw [fall_fact (i + 1), Int.mul_comm]
    rfl
  · rintro ρ ⟨t, rfl⟩
    have el : (rngD 2 ((n : Int) + 1 - 2).toNat).length = n - 1 := by rw [rngD_len]; omega
    rw [el]
    have ev : fallI ((n - 1 + 1 : Nat) : Int) (n - 1 + 1) = fallI (n : Nat) n := by
      cases n with
      | zero => decide
      | succ n => rfl
    rw [ev]
    exact q
abbrev N_neighbours : List Str := ["x", "many", "found", "k"]
def ir_neighbours : TSt :=
  (sSeq (sAsg 2 (fD (dC (.int 1))))
    (sSeq (sFor (iRg (aCons (.s 1) aNil)) (.nm 3) (sAsg 2 (fD (dBin bMulI (.s 2) (.e (dBin bSub (.s 0) (.s 3)))))))
    (sRetV 2)))
theorem sp_neighbours : ∀ args Q, S_falling.sp args Q → ir_neighbours (endsOf args Q) (rho0 N_neighbours args) := sp_law_falling
def stepL (ns : List Int) : List Int := List.zipWith (fun a b => b - a) ns ns.tail
def diffsF : Nat → List Int → List Int
  | 0, _ => []
  | _ + 1, [] => []
  | n + 1, a :: r => a :: diffsF n (stepL (a :: r))
def diffs (ns : List Int) : List Int := diffsF ns.length ns
theorem stepL_len (a : Int) (r : List Int) : (stepL (a :: r)).length = r.length := by unfold stepL; simp
theorem cut_tail {α : Type} (xs : List α) : cutD xs (some 1) none = xs.tail := by
  unfold cutD
  have h : HT.sIx xs.length 0 (some 1) = min 1 xs.length := HT.sIx_nat _ _ 1
  rw [h, HT.sIx_none]
  cases xs with
  | nil => rfl
  | cons x r =>
    rw [List.length_cons, Nat.min_eq_left (by omega)]
    simp
theorem at0 {α : Type} (a : α) (r : List α) : atI (a :: r) 0 = some a := by
  obtain ⟨x, h1, h2⟩ := atI_some (xs := a :: r) (i := 0) (Int.le_refl _) (by rw [List.length_cons]; omega)
  have : x = a := by simpa using h2.symm
  rw [h1, this]
def S_differences : FSpec := ⟨fun args Q => ∃ ns : List Int, args = [.d (.list (ns.map .int))] ∧ ns.length ≤ 100000 ∧ Q (.d (.list ((diffs ns).map .int))) []⟩
def lenAt (i : Nat) (ρ : En) : Nat := match ρ[i]? with
  | some (some (.d (.list xs))) => xs.length
  | some (some (.ls _ xs)) => xs.length
  | _ => 0
abbrev N_differences : List Str := ["items", "found", "earlier", "later"]
def ir_differences : TSt :=
  (sSeq (sAsg 1 (fLst aNil))
    (sSeq (sWhile (tVal (dBin cNe (.s 0) (.e (dFz (fLst aNil))))) (sSeq (sApp 1 (dBin bIx (.s 0) (.e (dC (.int 0)))))
    (sAsg 0 (fLc (iZp (aCons (.e (dVar 0)) (aCons (.e (dSl (.s 0) (pSome (.e (dC (.int 1)))) pNone)) aNil))) [2, 3] (.tp [2, 3]) cYes (dBin bSub (.s 3) (.s 2))))))
    (sRetV 1)))
theorem sp_differences : ∀ args Q, S_differences.sp args Q → ir_differences (endsOf args Q) (rho0 N_differences args) := by
  rintro args Q ⟨ns, rfl, hlen, q⟩
  refine ⟨fun ρ => ∃ (ms fs : List Int) (l : Lc), ρ = [some l, some (.ls none (fs.map .int)), none, none] ∧ (l = .d (.list (ms.map .int)) ∨ l = .ls none (ms.map .int)) ∧ fs ++ diffs ms = diffs ns ∧ fs.length + ms.length ≤ 100000, lenAt 0, ⟨ns, [], _, rfl, .inl rfl, rfl, by simpa using hlen⟩, ?_⟩
  rintro ρ ⟨ms, fs, l, rfl, hl, hd, hb⟩
  have shpM : ∀ ms : List Int, shp (.list (ms.map PyData.int)) := fun ms => (Shp.list (n := 0) (Shp.ints ms)).shp
  have fin : ms = [] → Q (.d (.list (fs.map .int))) [] := fun e => by
    subst e
    have : fs = diffs ns := by rw [← hd]; simp [diffs, diffsF]
    rw [this]; exact q
  have tl : ∀ (a : Int) (r : List Int), zipD ((a :: r).map PyData.int) (cutD ((a :: r).map PyData.int) (some 1) none) = List.zipWith (fun a b => PyData.tuple [.int a, .int b]) (a :: r) r := fun a r => by
    rw [cut_tail]
    unfold zipD
    rw [List.map_cons, List.tail_cons, ← List.map_cons, List.zipWith_map]
  have nxt : ∀ (a : Int) (r : List Int), ms = a :: r → (fs ++ [a]) ++ diffs (stepL (a :: r)) = diffs ns ∧ (fs ++ [a]).length + (stepL (a :: r)).length ≤ 100000 := fun a r e => by
    subst e
    refine ⟨?_, ?_⟩
    · rw [← hd]
      unfold diffs
      rw [stepL_len, List.length_cons, diffsF, List.append_assoc]
      rfl
    · rw [stepL_len, List.length_append]
      simp at hb ⊢
      omega
  have pre : ∀ (a : Int) (r : List Int) (i : Nat) (x : PD), (List.zipWith (fun a b => PyData.tuple [.int a, .int b]) (a :: r) r)[i]? = some x → ∃ u v : Int, x = .tuple [.int u, .int v] ∧ (stepL (a :: r))[i]? = some (v - u) := fun a r i x h => by
    rw [List.getElem?_zipWith] at h
    unfold stepL
    rw [List.tail_cons, List.getElem?_zipWith]
    cases e1 : (a :: r)[i]? with
    | none => rw [e1] at h; simp at h
    | some u =>
      cases e2 : r[i]? with
      | none => rw [e1, e2] at h; simp at h
      | some v => rw [e1, e2] at h; simp at h; exact ⟨u, v, h.symm, rfl⟩
  have ln : ∀ (a : Int) (r : List Int), (List.zipWith (fun a b => PyData.tuple [.int a, .int b]) (a :: r) r).length = (stepL (a :: r)).length := fun a r => by rw [stepL_len]; simp
  have emp : ∀ ms : List Int, (!PyData.eqv (.list (ms.map PyData.int)) (.list [])) = true → ∃ a r, ms = a :: r := fun ms h => by
    cases ms with
    | nil => simp [eqv_nil] at h
    | cons a r => exact ⟨a, r, rfl⟩
  have emp2 : ∀ ms : List Int, (!PyData.eqv (.list (ms.map PyData.int)) (.list [])) = false → ms = [] := fun ms h => by
    cases ms with
    | nil => rfl
    | cons a r => simp [eqv_nil] at h
  rcases hl with rfl | rfl
  all_goals
    refine ⟨shpM ms, ⟨rfl, rfl⟩, fun h => ?_, fun h => ?_⟩
    · obtain ⟨a, r, e⟩ := emp ms h
      subst e
      obtain ⟨n1, n2⟩ := nxt a r rfl
      refine ⟨.int a, at0 _ _, ?_, ?_⟩
      · rw [List.length_map, sizeLine_eq]; simp at hb; omega
      refine ⟨⟨rfl, rfl⟩, fun i acc ρ => acc = ((stepL (a :: r)).take i).map .int ∧ ρ = [some (.d (.list ((a :: r).map .int))), some (.ls none ((fs ++ [a]).map .int)), none, none], ?_, fun _ _ _ _ => trivial, ?_, ?_⟩
      · refine ⟨rfl, ?_⟩
        rw [List.map_append]
        rfl
      · rintro i x acc ρ hx ⟨rfl, rfl⟩
        have hx : (zipD ((a :: r).map PyData.int) (cutD ((a :: r).map PyData.int) (some 1) none))[i]? = some x := hx
        rw [tl] at hx
        obtain ⟨u, v, rfl, hs⟩ := pre a r i x hx
        refine ⟨rfl, fun _ => ⟨?_, ?_, rfl⟩, nofun⟩
        · rw [List.length_map, List.length_take, sizeLine_eq]
          have := stepL_len a r
          simp at hb
          omega
        · rw [List.take_add_one, hs, Option.toList_some, List.map_append]
          rfl
      · rintro acc ρ ⟨rfl, rfl⟩
        have el : (Wk.items (zipD ((a :: r).map PyData.int) (cutD ((a :: r).map PyData.int) (some 1) none))).list.length = (stepL (a :: r)).length := by
          show (zipD ((a :: r).map PyData.int) (cutD ((a :: r).map PyData.int) (some 1) none)).length = _
          rw [tl, ln]
        rw [el, List.take_length]
        refine ⟨⟨stepL (a :: r), fs ++ [a], _, rfl, .inr rfl, n1, n2⟩, ?_⟩
        show ((stepL (a :: r)).map PyData.int).length < ((a :: r).map PyData.int).length
        rw [List.length_map, List.length_map, stepL_len]
        exact Nat.lt_succ_self _
    · have := fin (emp2 ms h)
      exact .inr ⟨rfl, this⟩
end DL
namespace DL
open PySem L2 PyProof.Rows
def dN (g : Nat → Int) : Nat → Int := fun k => g (k + 1) - g k
def itN : Nat → (Nat → Int) → Nat → Int
  | 0, g => g
  | n + 1, g => itN n (dN g)
theorem itN_succ (g : Nat → Int) : ∀ n k, itN (n + 1) g k = itN n g (k + 1) - itN n g k
  | 0, k => rfl
  | n + 1, k => by
    show itN (n + 1) (dN g) k = itN n (dN g) (k + 1) - itN n (dN g) k
    exact itN_succ (dN g) n k
theorem stepL_range (g : Nat → Int) (n : Nat) : stepL ((List.range (n + 1)).map g) = (List.range n).map (dN g) := by
  apply List.ext_getElem?
  intro i
  unfold stepL
  rw [List.getElem?_zipWith, List.getElem?_map, List.getElem?_map, List.getElem?_tail, List.getElem?_map]
  by_cases h : i < n
  · rw [List.getElem?_range h, List.getElem?_range (by omega), List.getElem?_range (by omega)]
    rfl
  · rw [List.getElem?_eq_none (l := List.range n) (by simp; omega), List.getElem?_eq_none (l := List.range (n + 1)) (i := i + 1) (by simp; omega)]
    cases (List.range (n + 1))[i]? <;> rfl
theorem diffsF_range : ∀ (n : Nat) (g : Nat → Int), diffsF n ((List.range n).map g) = (List.range n).map fun k => itN k g 0
  | 0, g => rfl
  | n + 1, g => by
    have e : (List.range (n + 1)).map g = g 0 :: ((List.range n).map fun k => g (k + 1)) := by
      rw [List.range_succ_eq_map, List.map_cons, List.map_map]; rfl
    have s : stepL (g 0 :: ((List.range n).map fun k => g (k + 1))) = (List.range n).map (dN g) := by rw [← e, stepL_range]
    rw [e, diffsF, s, diffsF_range n (dN g)]
    rw [List.range_succ_eq_map, List.map_cons, List.map_map]
    rfl
theorem diffs_range (n : Nat) (g : Nat → Int) : diffs ((List.range n).map g) = (List.range n).map fun k => itN k g 0 := by
  unfold diffs
  rw [List.length_map, List.length_range, diffsF_range]
theorem itX_succ' (f : F2I) : ∀ n, itX (n + 1) f = itX n (dX f)
  | 0 => rfl
  | n + 1 => by rw [itX, itX_succ' f n]; rfl
theorem itN_itX (y : Int) : ∀ (n : Nat) (f : F2I) (k : Nat), itN n (fun k => f (k : Nat) y) k = itX n f (k : Nat) y
  | 0, f, k => rfl
  | n + 1, f, k => by
    rw [itX_succ', ← itN_itX y n (dX f) k]
    have e : (dN fun k => f (k : Nat) y) = fun k => dX f (k : Nat) y := by
      funext j
      show f ((j + 1 : Nat) : Int) y - f (j : Nat) y = f ((j : Int) + 1) y - f (j : Nat) y
      rw [show ((j + 1 : Nat) : Int) = (j : Int) + 1 by omega]
    show itN n (dN fun k => f (k : Nat) y) k = _
    rw [e]
theorem itN_itY (x : Int) : ∀ (n : Nat) (f : F2I) (k : Nat), itN n (fun k => f x (k : Nat)) k = itY n f x (k : Nat)
  | 0, f, k => rfl
  | n + 1, f, k => by
    rw [itN_succ, itN_itY x n f, itN_itY x n f]
    show itY n f x ((k + 1 : Nat) : Int) - itY n f x (k : Nat) = itY n f x ((k : Int) + 1) - itY n f x (k : Nat)
    rw [show ((k + 1 : Nat) : Int) = (k : Int) + 1 by omega]
def sqRow (f : F2I) (i : Nat) : PD := .list ((List.range 17).map fun j => .int (dd i j f))
def S_square (d : Nat) : FSpec := ⟨fun args Q => ∃ (f : FT) (m : Nat), args = [.d f.pd] ∧ f.lev ≤ d ∧ f.ok m ∧ 10 ≤ m ∧ Q (.d (.list ((List.range 17).map (sqRow fun u v => f.val u v)))) []⟩
theorem rng17 {lo : Int} {i : Nat} {x : PD} (h : (rngD 0 ((17 : Int) - 0).toNat)[i]? = some x) : x = .int (i : Nat) ∧ i < 17 := by
  obtain ⟨rfl, h2⟩ := rngD_get h
  exact ⟨by rw [Int.zero_add], h2⟩
theorem mapR_succ {α : Type} (g : Nat → α) (i : Nat) : (List.range i).map g ++ [g i] = (List.range (i + 1)).map g := by
  rw [List.range_succ, List.map_append]; rfl
theorem ints_of (g : Nat → Int) (n : Nat) : (List.range n).map (fun i => PyData.int (g i)) = ((List.range n).map g).map .int := by rw [List.map_map]; rfl
theorem atR {α : Type} (g : Nat → α) {n i : Nat} (h : i < n) : atI ((List.range n).map g) (i : Nat) = some (g i) :=
  atI_nat (by rw [List.getElem?_map, List.getElem?_range h]; rfl)
abbrev N_square : List Str := ["formula", "size", "by_y", "columns", "x", "y", "j", "i"]
def ir_square (S_differences : FSpec) (S_worth : FSpec) : TSt :=
  (sSeq (sAsg 1 (fD (dBin bAdd (.e (dC (.int 16))) (.e (dC (.int 1))))))
    (sSeq (sAsg 2 (fLc (iRg (aCons (.s 1) aNil)) [4] (.nm 4) cYes (dFz (fCall S_differences (aCons (.e (dFz (fLc (iRg (aCons (.s 1) aNil)) [5] (.nm 5) cYes (dFz (fCall S_worth (aCons (.e (dVar 0)) (aCons (.e (dVar 4)) (aCons (.e (dVar 5)) aNil)))))))) aNil)))))
    (sSeq (sAsg 3 (fLc (iRg (aCons (.s 1) aNil)) [6] (.nm 6) cYes (dFz (fCall S_differences (aCons (.e (dFz (fLc (iRg (aCons (.s 1) aNil)) [4] (.nm 4) cYes (dBin bIx (.e (dBin bIx (.s 2) (.s 4))) (.s 6))))) aNil)))))
    (sRet (fLc (iRg (aCons (.s 1) aNil)) [7] (.nm 7) cYes (dFz (fLc (iRg (aCons (.s 1) aNil)) [6] (.nm 6) cYes (dBin bIx (.e (dBin bIx (.s 3) (.s 6))) (.s 7)))))))))
theorem sp_square (d : Nat) : ∀ args Q, (S_square d).sp args Q → ir_square S_differences (S_worth d) (endsOf args Q) (rho0 N_square args) := by
  rintro args Q ⟨f, m, rfl, hl, ok, hm, q⟩
  have sm : ∀ i : Nat, i < 17 → ((i : Nat) : Int).natAbs < 2 ^ m := fun i hi => Nat.lt_of_lt_of_le (show _ < 2 ^ 10 by omega) (Nat.pow_le_pow_right (by decide) hm)
  have difY : ∀ i : Nat, diffs ((List.range 17).map fun y => f.val (i : Nat) (y : Nat)) = (List.range 17).map fun j => itY j (fun u v => f.val u v) (i : Nat) 0 := fun i => by
    rw [diffs_range]
    apply List.map_congr_left
    intro j _
    exact itN_itY (i : Nat) j (fun u v => f.val u v) 0
  have difX : ∀ j : Nat, diffs ((List.range 17).map fun x => itY j (fun u v => f.val u v) (x : Nat) 0) = (List.range 17).map fun i => dd i j (fun u v => f.val u v) := fun j => by
    rw [diffs_range]
    apply List.map_congr_left
    intro i _
    exact itN_itX 0 i (itY j fun u v => f.val u v) 0
  have szl : ∀ n : Nat, n < 17 → n < sizeLine := fun n h => by rw [sizeLine_eq]; omega
  refine ⟨by decide, ⟨rfl, rfl⟩, fun i acc ρ => acc = (List.range i).map (fun x => PyData.list ((List.range 17).map fun j => .int (itY j (fun u v => f.val u v) (x : Nat) 0))) ∧ ρ = [some (.d f.pd), some (.d (.int 17)), none, none, none, none, none, none], ⟨rfl, rfl⟩, fun _ _ _ _ => trivial, ?_, ?_⟩
  · rintro i x acc ρ hx ⟨rfl, rfl⟩
    obtain ⟨rfl, hi⟩ := rng17 (lo := 0) hx
    refine ⟨fun _ => ?_, nofun⟩
    refine ⟨by decide, ⟨rfl, rfl⟩, fun j acc ρ => acc = (List.range j).map (fun y => PyData.int (f.val (i : Nat) (y : Nat))) ∧ ρ = [some (.d f.pd), some (.d (.int 17)), none, none, some (.d (.int (i : Nat))), none, none, none], ⟨rfl, rfl⟩, fun _ _ _ _ => trivial, ?_, ?_⟩
    · rintro j y acc ρ hy ⟨rfl, rfl⟩
      obtain ⟨rfl, hj⟩ := rng17 (lo := 0) hy
      refine ⟨fun _ => ⟨rfl, f, _, _, m, rfl, hl, ok, sm i hi, sm j hj, ?_, ?_, rfl⟩, nofun⟩
      · rw [List.length_map, List.length_range]; exact szl j hj
      · exact mapR_succ (fun y => PyData.int (f.val (i : Nat) (y : Nat))) j
    · rintro acc ρ ⟨rfl, rfl⟩
      have el : (Wk.items (rngD 0 ((17 : Int)).toNat)).list.length = 17 := rngD_len
      rw [el]
      refine ⟨rfl, (List.range 17).map fun y => f.val (i : Nat) (y : Nat), by rw [← ints_of]; rfl, by simp, ?_⟩
      refine ⟨?_, ?_, rfl⟩
      · rw [List.length_map, List.length_range]; exact szl i hi
      · show _ ++ [PyData.list ((diffs _).map PyData.int)] = _
        rw [difY, List.map_map]
        exact mapR_succ (fun x : Nat => PyData.list ((List.range 17).map fun j => .int (itY j (fun u v => f.val u v) (x : Nat) 0))) i
  · rintro acc ρ ⟨rfl, rfl⟩
    have el : (Wk.items (rngD 0 ((16 : Int) + 1).toNat)).list.length = 17 := rngD_len
    rw [el]
    obtain ⟨byY, hY⟩ : ∃ l, l = (List.range 17).map (fun x => PyData.list ((List.range 17).map fun j => .int (itY j (fun u v => f.val u v) (x : Nat) 0))) := ⟨_, rfl⟩
    refine ⟨by decide, ⟨rfl, rfl⟩, fun i acc ρ => acc = (List.range i).map (fun j => PyData.list ((List.range 17).map fun i => .int (dd i j (fun u v => f.val u v)))) ∧ ρ = [some (.d f.pd), some (.d (.int 17)), some (.ls none byY), none, none, none, none, none], ⟨rfl, by rw [hY]; rfl⟩, fun _ _ _ _ => trivial, ?_, ?_⟩
    · rintro j x acc ρ hx ⟨rfl, rfl⟩
      obtain ⟨rfl, hj⟩ := rng17 (lo := 0) hx
      refine ⟨fun _ => ?_, nofun⟩
      refine ⟨by decide, ⟨rfl, rfl⟩, fun i acc ρ => acc = (List.range i).map (fun x => PyData.int (itY j (fun u v => f.val u v) (x : Nat) 0)) ∧ ρ = [some (.d f.pd), some (.d (.int 17)), some (.ls none byY), none, none, none, some (.d (.int (j : Nat))), none], ⟨rfl, rfl⟩, fun _ _ _ _ => trivial, ?_, ?_⟩
      · rintro i y acc ρ hy ⟨rfl, rfl⟩
        obtain ⟨rfl, hi⟩ := rng17 (lo := 0) hy
        refine ⟨fun _ => ⟨.list ((List.range 17).map fun j => .int (itY j (fun u v => f.val u v) (i : Nat) 0)), by rw [hY]; exact atR _ hi, _, atR _ hj, ?_, ?_, rfl⟩, nofun⟩
        · rw [List.length_map, List.length_range]; exact szl i hi
        · exact mapR_succ (fun x => PyData.int (itY j (fun u v => f.val u v) (x : Nat) 0)) i
      · rintro acc ρ ⟨rfl, rfl⟩
        have el : (Wk.items (rngD 0 ((17 : Int)).toNat)).list.length = 17 := rngD_len
        rw [el]
        refine ⟨rfl, (List.range 17).map fun x => itY j (fun u v => f.val u v) (x : Nat) 0, by rw [← ints_of]; rfl, by simp, ?_⟩
        refine ⟨?_, ?_, rfl⟩
        · rw [List.length_map, List.length_range]; exact szl j hj
        · show _ ++ [PyData.list ((diffs _).map PyData.int)] = _
          rw [difX, List.map_map]
          exact mapR_succ (fun j : Nat => PyData.list ((List.range 17).map fun i => .int (dd i j (fun u v => f.val u v)))) j
    · rintro acc ρ ⟨rfl, rfl⟩
      have el : (Wk.items (rngD 0 ((17 : Int)).toNat)).list.length = 17 := rngD_len
      rw [el]
      obtain ⟨cl, hC⟩ : ∃ l, l = (List.range 17).map (fun j => PyData.list ((List.range 17).map fun i => .int (dd i j (fun u v => f.val u v)))) := ⟨_, rfl⟩
      refine ⟨by decide, ⟨rfl, rfl⟩, fun i acc ρ => acc = (List.range i).map (sqRow fun u v => f.val u v) ∧ ρ = [some (.d f.pd), some (.d (.int 17)), some (.ls none byY), some (.ls none cl), none, none, none, none], ⟨rfl, by rw [hC]; rfl⟩, fun _ _ _ _ => trivial, ?_, ?_⟩
      · rintro i x acc ρ hx ⟨rfl, rfl⟩
        obtain ⟨rfl, hi⟩ := rng17 (lo := 0) hx
        refine ⟨fun _ => ?_, nofun⟩
        refine ⟨by decide, ⟨rfl, rfl⟩, fun j acc ρ => acc = (List.range j).map (fun j => PyData.int (dd i j (fun u v => f.val u v))) ∧ ρ = [some (.d f.pd), some (.d (.int 17)), some (.ls none byY), some (.ls none cl), none, none, none, some (.d (.int (i : Nat)))], ⟨rfl, rfl⟩, fun _ _ _ _ => trivial, ?_, ?_⟩
        · rintro j y acc ρ hy ⟨rfl, rfl⟩
          obtain ⟨rfl, hj⟩ := rng17 (lo := 0) hy
          refine ⟨fun _ => ⟨.list ((List.range 17).map fun i => .int (dd i j (fun u v => f.val u v))), by rw [hC]; exact atR _ hj, _, atR _ hi, ?_, ?_, rfl⟩, nofun⟩
          · rw [List.length_map, List.length_range]; exact szl j hj
          · exact mapR_succ (fun j => PyData.int (dd i j (fun u v => f.val u v))) j
        · rintro acc ρ ⟨rfl, rfl⟩
          have el : (Wk.items (rngD 0 ((17 : Int)).toNat)).list.length = 17 := rngD_len
          rw [el]
          refine ⟨?_, ?_, rfl⟩
          · rw [List.length_map, List.length_range]; exact szl i hi
          · exact mapR_succ (sqRow fun u v => f.val u v) i
      · rintro acc ρ ⟨rfl, rfl⟩
        have el : (Wk.items (rngD 0 ((17 : Int)).toNat)).list.length = 17 := rngD_len
        rw [el]
        exact .inr ⟨rfl, q⟩
end DL
namespace DL
open PySem L2 PyProof.Rows
theorem enumD_len (xs : List PD) : (enumD xs).length = xs.length := by unfold enumD; simp
theorem enumD_inv {xs : List PD} {i : Nat} {x : PD} (h : (enumD xs)[i]? = some x) : ∃ d, xs[i]? = some d ∧ x = .tuple [.int (i : Nat), d] := by
  have hi : i < xs.length := by rw [← enumD_len]; exact (List.getElem?_eq_some_iff.mp h).1
  have e := enumD_get (List.getElem?_eq_getElem hi)
  rw [h] at e
  exact ⟨_, List.getElem?_eq_getElem hi, by simpa using e⟩
abbrev T3 := Nat × Nat × Int
def rI (f : F2I) (i n : Nat) : List T3 := (List.range n).flatMap fun j => if dd i j f = 0 then [] else [(i, j, cof f i j)]
def rD (f : F2I) (n : Nat) : List T3 := (List.range n).flatMap fun i => rI f i 17
def rowP (t : T3) : PD := .tuple [.int (t.1 : Nat), .int (t.2.1 : Nat), .int t.2.2]
theorem rI_succ (f : F2I) (i n : Nat) : rI f i (n + 1) = rI f i n ++ (if dd i n f = 0 then [] else [(i, n, cof f i n)]) := by
  unfold rI; rw [List.range_succ, List.flatMap_append]; simp
theorem rD_succ (f : F2I) (n : Nat) : rD f (n + 1) = rD f n ++ rI f n 17 := by
  unfold rD; rw [List.range_succ, List.flatMap_append]; simp
theorem rI_len (f : F2I) (i : Nat) : ∀ n, (rI f i n).length ≤ n
  | 0 => Nat.le_refl _
  | n + 1 => by
    rw [rI_succ, List.length_append]
    have := rI_len f i n
    split <;> simp <;> omega
theorem rD_len (f : F2I) : ∀ n, (rD f n).length ≤ 17 * n
  | 0 => Nat.le_refl _
  | n + 1 => by
    rw [rD_succ, List.length_append]
    have := rD_len f n
    have := rI_len f n 17
    omega
def S_rows (d : Nat) : FSpec := ⟨fun args Q => ∃ (f : FT) (m : Nat), args = [.d f.pd] ∧ f.lev ≤ d ∧ f.ok m ∧ 10 ≤ m ∧ Q (.d (.tuple ((rD (fun u v => f.val u v) 17).map rowP))) []⟩
theorem fac_log {i : Nat} (h : i ≤ 20) : (fallI (i : Nat) i).natAbs < 2 ^ 221 := Nat.lt_of_lt_of_le (fact_small (by omega)) (Nat.pow_le_pow_right (by decide) (by omega))
theorem fac2_nn {i j : Nat} (h : i ≤ 20) (h2 : j ≤ 20) : (fallI (i : Nat) i * fallI (j : Nat) j).natAbs < 2 ^ 442 := two_mul (fac_log h) (fac_log h2) (by decide)
abbrev N_rows_of : List Str := ["formula", "found", "i", "line", "j", "difference"]
def ir_rows_of (S_square : FSpec) (S_factorial : FSpec) : TSt :=
  (sSeq (sAsg 1 (fLst aNil))
    (sSeq (sFor (iEnm (dFz (fCall S_square (aCons (.e (dVar 0)) aNil)))) (.tp [2, 3]) (sFor (iEnm (dVar 3)) (.tp [4, 5]) (sIf (tVal (dBin cNe (.s 5) (.e (dC (.int 0))))) (sApp 1 (dTup (aCons (.e (dVar 2)) (aCons (.e (dVar 4)) (aCons (.e (dBin bFdiv (.s 5) (.e (dBin bMulI (.e (dFz (fCall S_factorial (aCons (.e (dVar 2)) aNil)))) (.e (dFz (fCall S_factorial (aCons (.e (dVar 4)) aNil)))))))) aNil))))) sNext)))
    (sRet (fD (dBi bTuple (aCons (.s 1) aNil))))))
theorem sp_rows_of (d : Nat) : ∀ args Q, (S_rows d).sp args Q → ir_rows_of (S_square d) S_factorial (endsOf args Q) (rho0 N_rows_of args) := by
  rintro args Q ⟨f, m, rfl, hl, ok, hm, q⟩
  obtain ⟨F, hF⟩ : ∃ F : F2I, F = fun u v => f.val u v := ⟨_, rfl⟩
  refine ⟨rfl, f, m, rfl, hl, ok, hm, _, rfl, fun i ρ => ∃ s2 s3 s4 s5, ρ = [some (.d f.pd), some (.ls none ((rD F i).map rowP)), s2, s3, s4, s5], ⟨none, none, none, none, rfl⟩, ?_, ?_⟩
  · rintro i x ρ hx ⟨s2, s3, s4, s5, rfl⟩
    rw [← hF] at hx
    obtain ⟨z, hz, rfl⟩ := enumD_inv hx
    rw [List.getElem?_map] at hz
    obtain ⟨i', hi', rfl⟩ := Option.map_eq_some_iff.mp hz
    have hi : i < 17 := by have := (List.getElem?_eq_some_iff.mp hi').1; simpa using this
    rw [List.getElem?_range hi] at hi'
    cases hi'
    refine ⟨rfl, _, rfl, fun j ρ => ∃ s4 s5, ρ = [some (.d f.pd), some (.ls none ((rD F i ++ rI F i j).map rowP)), some (.d (.int (i : Nat))), some (.d (sqRow F i)), s4, s5], ⟨s4, s5, ?_⟩, ?_, ?_⟩
    · have : rI F i 0 = [] := rfl
      rw [this, List.append_nil]
      rfl
    · rintro j y ρ hy ⟨s4, s5, rfl⟩
      have hy : (enumD ((List.range 17).map fun j => PyData.int (dd i j F)))[j]? = some y := hy
      obtain ⟨w, hw, rfl⟩ := enumD_inv hy
      rw [List.getElem?_map] at hw
      obtain ⟨j', hj', rfl⟩ := Option.map_eq_some_iff.mp hw
      have hj : j < 17 := by have := (List.getElem?_eq_some_iff.mp hj').1; simpa using this
      rw [List.getElem?_range hj] at hj'
      cases hj'
      refine ⟨rfl, fun h => ?_, fun h => ?_⟩
      · have h : (!decide (dd i j F = 0)) = true := h
        have h0 : ¬ dd i j F = 0 := by simpa using h
        refine ⟨rfl, i, rfl, by omega, rfl, j, rfl, by omega, mulOk 221 221 (fac_log (by omega)) (fac_log (by omega)), ⟨fac2_pos i j, Nat.lt_trans (log2_lt (fac2_nn (by omega) (by omega)) (by decide)) (by decide)⟩, ?_, ?_⟩
        · have a := rD_len F i
          have b := rI_len F i j
          rw [List.length_map, List.length_append, sizeLine_eq]; omega
        · refine ⟨some (.d (.int (j : Nat))), some (.d (.int (dd i j F))), ?_⟩
          rw [rI_succ, if_neg h0, ← List.append_assoc, List.map_append (l₂ := [(i, j, cof F i j)])]
          rfl
      · have h : (!decide (dd i j F = 0)) = false := h
        have h0 : dd i j F = 0 := by simpa using h
        refine ⟨some (.d (.int (j : Nat))), some (.d (.int (dd i j F))), ?_⟩
        rw [rI_succ, if_pos h0, List.append_nil]
        rfl
    · rintro ρ ⟨s4, s5, rfl⟩
      have el : (enumD ((List.range 17).map fun j => PyData.int (dd i j F))).length = 17 := by rw [enumD_len]; simp
      refine ⟨some (.d (.int (i : Nat))), some (.d (sqRow F i)), s4, s5, ?_⟩
      rw [el, rD_succ]
  · rintro ρ ⟨s2, s3, s4, s5, rfl⟩
    have el : (enumD ((List.range 17).map (sqRow F))).length = 17 := by rw [enumD_len]; simp
    rw [← hF, el]
    rw [← hF] at q
    exact q
end DL
namespace DL
open PySem L2 PyProof.Rows
theorem bndX {g : F2I} {y : Int} {B N : Nat} (h : ∀ x : Nat, x ≤ N → (g (x : Nat) y).natAbs < 2 ^ B) : ∀ (n x : Nat), x + n ≤ N → (itX n g (x : Nat) y).natAbs < 2 ^ (B + n)
  | 0, x, hx => h x hx
  | n + 1, x, hx => by
    have a := bndX h n (x + 1) (by omega)
    have b := bndX h n x (by omega)
    rw [show ((x + 1 : Nat) : Int) = (x : Int) + 1 by omega] at a
    exact (two_add a b (by omega) (by omega)).2
theorem bndY {g : F2I} {x : Int} {B N : Nat} (h : ∀ y : Nat, y ≤ N → (g x (y : Nat)).natAbs < 2 ^ B) : ∀ (n y : Nat), y + n ≤ N → (itY n g x (y : Nat)).natAbs < 2 ^ (B + n)
  | 0, y, hy => h y hy
  | n + 1, y, hy => by
    have a := bndY h n (y + 1) (by omega)
    have b := bndY h n y (by omega)
    rw [show ((y + 1 : Nat) : Int) = (y : Int) + 1 by omega] at a
    exact (two_add a b (by omega) (by omega)).2
theorem dd_small {g : F2I} {B : Nat} (h : ∀ x y : Nat, x ≤ 16 → y ≤ 16 → (g (x : Nat) (y : Nat)).natAbs < 2 ^ B) {i j : Nat} (hi : i ≤ 16) (hj : j ≤ 16) : (dd i j g).natAbs < 2 ^ (B + 32) := by
  have a : ∀ x : Nat, x ≤ 16 → (itY j g (x : Nat) ((0 : Nat) : Int)).natAbs < 2 ^ (B + j) := fun x hx => bndY (fun y hy => h x y hx hy) j 0 (by omega)
  have b := bndX (g := itY j g) (y := ((0 : Nat) : Int)) a i 0 (by omega)
  exact Nat.lt_of_lt_of_le b (Nat.pow_le_pow_right (by decide) (by omega))
theorem cof_mul {d : Nat} {f : F2I} (h : Pol d f) (i j : Nat) : cof f i j * fac2 i j = dd i j f := Int.ediv_mul_cancel (h.dvd i j)
theorem cof_small {d B : Nat} {f : F2I} (h : Pol d f) {i j : Nat} (hb : (dd i j f).natAbs < 2 ^ B) : (cof f i j).natAbs < 2 ^ B := by
  rw [← cof_mul h, Int.natAbs_mul] at hb
  have := fac2_pos i j
  exact Nat.lt_of_le_of_lt (Nat.le_mul_of_pos_right _ (by omega)) hb
theorem FT.dd_small {f : FT} {m : Nat} (ok : f.ok m) (hm : 10 ≤ m) {i j : Nat} (hi : i ≤ 16) (hj : j ≤ 16) : (dd i j fun u v => f.val u v).natAbs < 2 ^ 100032 := by
  have sm : ∀ x : Nat, x ≤ 16 → ((x : Nat) : Int).natAbs < 2 ^ m := fun x hx => Nat.lt_of_lt_of_le (show _ < 2 ^ 10 by omega) (Nat.pow_le_pow_right (by decide) hm)
  have z := DL.dd_small (g := fun u v => f.val u v) (B := (f.lev + m) * f.e) (fun x y hx hy => FT.small (sm x hx) (sm y hy) ok.1) hi hj
  exact Nat.lt_of_lt_of_le z (Nat.pow_le_pow_right (by decide) (by have := ok.2; omega))
theorem rI_mem {f : F2I} {i n : Nat} {t : T3} (h : t ∈ rI f i n) : t.1 = i ∧ t.2.1 < n ∧ t.2.2 = cof f i t.2.1 ∧ dd i t.2.1 f ≠ 0 := by
  unfold rI at h
  obtain ⟨j, hj, ht⟩ := List.mem_flatMap.mp h
  split at ht
  · cases ht
  · rename_i h0
    simp only [List.mem_cons, List.not_mem_nil, or_false] at ht
    subst ht
    exact ⟨rfl, List.mem_range.mp hj, rfl, h0⟩
theorem rD_mem {f : F2I} {n : Nat} {t : T3} (h : t ∈ rD f n) : t.1 < n ∧ t.2.1 < 17 ∧ t.2.2 = cof f t.1 t.2.1 ∧ dd t.1 t.2.1 f ≠ 0 := by
  unfold rD at h
  obtain ⟨i, hi, ht⟩ := List.mem_flatMap.mp h
  obtain ⟨rfl, b, c, d⟩ := rI_mem ht
  exact ⟨List.mem_range.mp hi, b, c, d⟩
theorem rI_sum (f : F2I) (s : Nat → Nat → Int) (i : Nat) : ∀ n, ((rI f i n).map fun t => t.2.2 * s t.1 t.2.1).sum = sumN n fun j => cof f i j * s i j
  | 0 => rfl
  | n + 1 => by
    rw [rI_succ, List.map_append, List.sum_append, rI_sum f s i n, sumN]
    congr 1
    split
    · rename_i h
      have : cof f i n = 0 := by unfold cof; rw [h, Int.zero_ediv]
      rw [this, Int.zero_mul]; rfl
    · simp
theorem rD_sum (f : F2I) (s : Nat → Nat → Int) : ∀ n, ((rD f n).map fun t => t.2.2 * s t.1 t.2.1).sum = sumN n fun i => sumN 17 fun j => cof f i j * s i j
  | 0 => rfl
  | n + 1 => by
    rw [rD_succ, List.map_append, List.sum_append, rD_sum f s n, rI_sum]
    rfl
theorem cof0 {f : F2I} {i j : Nat} (h : dd i j f = 0) : cof f i j = 0 := by unfold cof; rw [h, Int.zero_ediv]
end DL
namespace DL
open PySem L2 PyProof.Rows
def stp (c i j : Nat) : Nat := c / Nat.gcd c (fac2 i j).toNat
theorem stp_pos {c i j : Nat} (h : 0 < c) : 0 < stp c i j := Nat.div_pos (Nat.le_of_dvd h (Nat.gcd_dvd_left _ _)) (Nat.gcd_pos_of_pos_left _ h)
theorem stp_le (c i j : Nat) : stp c i j ≤ c := Nat.div_le_self _ _
abbrev N_common : List Str := ["one", "other"]
def ir_common : TSt :=
  (sSeq (sWhile (tVal (dBin cGt (.s 1) (.e (dC (.int 0))))) (sPar 0 1 (fD (dVar 1)) (fD (dBin bMod (.s 0) (.s 1)))))
    (sRetV 0))
theorem sp_common : ∀ args Q, S_common.sp args Q → ir_common (endsOf args Q) (rho0 N_common args) := by
  rintro args Q ⟨a, b, rfl, q⟩
  refine ⟨fun ρ => ∃ x y : Nat, ρ = [some (.d (.int x)), some (.d (.int y))] ∧ Nat.gcd x y = Nat.gcd a b, natAt 1, ⟨a, b, rfl, rfl⟩, ?_⟩
  rintro ρ ⟨x, y, rfl, hg⟩
  refine ⟨fun h => ?_, fun h => ?_⟩
  · have hy : (0 : Int) < (y : Int) := of_decide_eq_true h
    refine ⟨hy, ⟨y, x % y, by rw [Int.natCast_emod]; rfl, ?_⟩, ?_⟩
    · rw [gcd_turn (by omega)]; exact hg
    · show ((x : Int) % (y : Int)).toNat < ((y : Nat) : Int).toNat
      have h1 := Int.emod_lt_of_pos (x : Int) hy
      have h2 := Int.emod_nonneg (x : Int) (b := (y : Int)) (by omega)
      omega
  · have hy : ¬ (0 : Int) < (y : Int) := of_decide_eq_false h
    have : y = 0 := by omega
    subst this
    rw [Nat.gcd_zero_right] at hg
    subst hg
    exact q
def S_step : FSpec := ⟨fun args Q => ∃ c i j : Nat, args = [.d (.int c), .d (.int i), .d (.int j)] ∧ 0 < c ∧ c < 2 ^ 110 ∧ i ≤ 100 ∧ j ≤ 100 ∧ Q (.d (.int ((stp c i j : Nat) : Int))) []⟩
theorem fac_l {i : Nat} (h : i ≤ 100) : (fallI (i : Nat) i).natAbs < 2 ^ 1101 := Nat.lt_of_lt_of_le (fact_small (by omega)) (Nat.pow_le_pow_right (by decide) (by omega))
abbrev N_step_of : List Str := ["clock", "i", "j"]
def ir_step_of (S_common : FSpec) (S_factorial : FSpec) : TSt :=
  (sRet (fD (dBin bFdiv (.s 0) (.e (dFz (fCall S_common (aCons (.e (dVar 0)) (aCons (.e (dBin bMulI (.e (dFz (fCall S_factorial (aCons (.e (dVar 1)) aNil)))) (.e (dFz (fCall S_factorial (aCons (.e (dVar 2)) aNil)))))) aNil))))))))
theorem sp_step_of : ∀ args Q, S_step.sp args Q → ir_step_of S_common S_factorial (endsOf args Q) (rho0 N_step_of args) := by
  rintro args Q ⟨c, i, j, rfl, c0, hc, hi, hj, q⟩
  have e : fallI (i : Nat) i * fallI (j : Nat) j = (((fac2 i j).toNat : Nat) : Int) := (Int.toNat_of_nonneg (Int.le_of_lt (fac2_pos i j))).symm
  refine ⟨rfl, i, rfl, by omega, rfl, j, rfl, by omega, mulOk 1101 1101 (fac_l hi) (fac_l hj), rfl, c, (fac2 i j).toNat, by rw [← e], ?_⟩
  have gp : 0 < Nat.gcd c (fac2 i j).toNat := Nat.gcd_pos_of_pos_left _ c0
  have gl : Nat.gcd c (fac2 i j).toNat ≤ c := Nat.le_of_dvd c0 (Nat.gcd_dvd_left _ _)
  refine ⟨⟨by omega, Nat.lt_trans (log2_const (i := ((Nat.gcd c (fac2 i j).toNat : Nat) : Int)) (k := 110) (by rw [Int.natAbs_natCast]; omega)) (by decide)⟩, ?_⟩
  have z : ((c : Nat) : Int) / ((Nat.gcd c (fac2 i j).toNat : Nat) : Int) = ((stp c i j : Nat) : Int) := (Int.natCast_ediv _ _).symm
  rw [← z] at q
  exact q
def rstR (c : Nat) (t : T3) : T3 := (t.1, t.2.1, t.2.2 % ((stp c t.1 t.2.1 : Nat) : Int))
def plainR (c : Nat) (rs : List T3) : List T3 := (rs.map (rstR c)).filter fun t => !decide (t.2.2 = 0)
def S_made : FSpec := ⟨fun args Q => ∃ (rs : List T3) (c : Nat), args = [.d (.tuple (rs.map rowP)), .d (.int c)] ∧ 0 < c ∧ c < 2 ^ 110 ∧ rs.length ≤ 1000 ∧ (∀ t ∈ rs, t.1 ≤ 100 ∧ t.2.1 ≤ 100) ∧ Q (.d (.tuple ((plainR c rs).map rowP))) []⟩
abbrev N_made_plain : List Str := ["rows", "clock", "rests", "i", "j", "c", "row"]
def ir_made_plain (S_step_of : FSpec) : TSt :=
  (sSeq (sAsg 2 (fLc (iOwn 0) [3, 4, 5] (.tp [3, 4, 5]) cYes (dTup (aCons (.e (dVar 3)) (aCons (.e (dVar 4)) (aCons (.e (dBin bMod (.s 5) (.e (dFz (fCall S_step_of (aCons (.e (dVar 1)) (aCons (.e (dVar 3)) (aCons (.e (dVar 4)) aNil)))))))) aNil))))))
    (sRet (fD (dBi bTuple (aCons (.e (dFz (fLc (iOwn 2) [6] (.nm 6) (tVal (dBin cNe (.e (dBin bIx (.s 6) (.e (dC (.int 2))))) (.e (dC (.int 0))))) (dVar 6)))) aNil)))))
theorem sp_made_plain : ∀ args Q, S_made.sp args Q → ir_made_plain S_step (endsOf args Q) (rho0 N_made_plain args) := by
  rintro args Q ⟨rs, c, rfl, c0, hc, hl, hr, q⟩
  refine ⟨⟨rfl, rfl⟩, fun i acc ρ => acc = ((rs.take i).map (rstR c)).map rowP ∧ ρ = [some (.d (.tuple (rs.map rowP))), some (.d (.int c)), none, none, none, none, none], ⟨rfl, rfl⟩, fun _ _ _ _ => trivial, ?_, ?_⟩
  · rintro i x acc ρ hx ⟨rfl, rfl⟩
    have hx : (rs.map rowP)[i]? = some x := hx
    rw [List.getElem?_map] at hx
    obtain ⟨t, ht, rfl⟩ := Option.map_eq_some_iff.mp hx
    obtain ⟨h1, h2⟩ := hr t (List.mem_of_getElem? ht)
    have sp := stp_pos (i := t.1) (j := t.2.1) c0
    refine ⟨rfl, fun _ => ⟨rfl, c, t.1, t.2.1, rfl, c0, hc, h1, h2, by omega, ?_, ?_, rfl⟩, nofun⟩
    · rw [List.length_map, List.length_map, List.length_take, sizeLine_eq]; omega
    · rw [List.take_add_one, ht, Option.toList_some, List.map_append, List.map_append]
      rfl
  · rintro acc ρ ⟨rfl, rfl⟩
    have el : (Wk.items (rs.map rowP)).list.length = rs.length := List.length_map _
    rw [el, List.take_length]
    obtain ⟨ts, hts⟩ : ∃ ts, ts = rs.map (rstR c) := ⟨_, rfl⟩
    have tl : ts.length = rs.length := by rw [hts, List.length_map]
    rw [← hts]
    refine ⟨⟨rfl, rfl⟩, fun i acc ρ => acc = ((ts.take i).filter fun t => !decide (t.2.2 = 0)).map rowP ∧ ρ = [some (.d (.tuple (rs.map rowP))), some (.d (.int c)), some (.ls none (ts.map rowP)), none, none, none, none], ⟨rfl, rfl⟩, ?_, ?_, ?_⟩
    · rintro i acc ρ ⟨_, rfl⟩
      rfl
    · rintro i x acc ρ hx ⟨rfl, rfl⟩
      have hx : (ts.map rowP)[i]? = some x := hx
      rw [List.getElem?_map] at hx
      obtain ⟨t, ht, rfl⟩ := Option.map_eq_some_iff.mp hx
      refine ⟨.int t.2.2, rfl, fun h => ⟨?_, ?_, rfl⟩, fun h => ⟨?_, rfl⟩⟩
      · have := List.length_filter_le (fun t : T3 => !decide (t.2.2 = 0)) (ts.take i)
        rw [List.length_map, sizeLine_eq]
        rw [List.length_take] at this
        omega
      · have h : (!decide (t.2.2 = 0)) = true := h
        rw [List.take_add_one, ht, Option.toList_some, List.filter_append, List.map_append, List.filter_cons_of_pos (p := fun t : T3 => !decide (t.2.2 = 0)) h]
        rfl
      · have h : (!decide (t.2.2 = 0)) = false := h
        rw [List.take_add_one, ht, Option.toList_some, List.filter_append, List.filter_cons_of_neg (p := fun t : T3 => !decide (t.2.2 = 0)) (by rw [h]; exact Bool.false_ne_true), List.filter_nil, List.append_nil]
    · rintro acc ρ ⟨rfl, rfl⟩
      have el : (Wk.own 2 none (ts.map rowP)).list.length = ts.length := List.length_map _
      rw [el, List.take_length, hts]
      exact q
def S_plain (d : Nat) : FSpec := ⟨fun args Q => ∃ (f : FT) (c m : Nat), args = [.d f.pd, .d (.int c)] ∧ f.lev ≤ d ∧ f.ok m ∧ 10 ≤ m ∧ 0 < c ∧ c < 2 ^ 110 ∧ Q (.d (.tuple ((plainR c (rD (fun u v => f.val u v) 17)).map rowP))) []⟩
abbrev N_plain : List Str := ["formula", "clock"]
def ir_plain (S_made_plain : FSpec) (S_rows_of : FSpec) : TSt :=
  (sRet (fCall S_made_plain (aCons (.e (dFz (fCall S_rows_of (aCons (.e (dVar 0)) aNil)))) (aCons (.e (dVar 1)) aNil))))
theorem rD_bnd {f : F2I} {n : Nat} (h : n ≤ 17) : ∀ t ∈ rD f n, t.1 ≤ 16 ∧ t.2.1 ≤ 16 := fun t ht => by
  obtain ⟨a, b, _⟩ := rD_mem ht
  exact ⟨by omega, by omega⟩
theorem sp_plain (d : Nat) : ∀ args Q, (S_plain d).sp args Q → ir_plain S_made (S_rows d) (endsOf args Q) (rho0 N_plain args) := by
  rintro args Q ⟨f, c, m, rfl, hl, ok, hm, c0, hc, q⟩
  refine ⟨rfl, f, m, rfl, hl, ok, hm, rfl, _, c, rfl, c0, hc, ?_, fun t ht => ?_, q⟩
  · have := rD_len (fun u v => f.val u v) 17
    omega
  · have := rD_bnd (Nat.le_refl 17) t ht
    omega
theorem FT.dd_bnd {f : FT} {m : Nat} (ok : f.ok m) (hm : 10 ≤ m) {i j : Nat} (hi : i ≤ 16) (hj : j ≤ 16) : (dd i j fun u v => f.val u v).natAbs < 2 ^ ((f.lev + m) * f.e + 32) := by
  have sm : ∀ x : Nat, x ≤ 16 → ((x : Nat) : Int).natAbs < 2 ^ m := fun x hx => Nat.lt_of_lt_of_le (show _ < 2 ^ 10 by omega) (Nat.pow_le_pow_right (by decide) hm)
  exact DL.dd_small (g := fun u v => f.val u v) (B := (f.lev + m) * f.e) (fun x y hx hy => FT.small (sm x hx) (sm y hy) ok.1) hi hj
theorem rows_shw {rs : List T3} {k : Nat} (hl : rs.length ≤ 1000) (h : ∀ t ∈ rs, t.1 ≤ 100 ∧ t.2.1 ≤ 100 ∧ t.2.2.natAbs < 2 ^ k) (h0 : 0 < k) (hk : k ≤ 14000) : Shw 2 (3 + 1000 * (k + 100)) (.tuple (rs.map rowP)) := by
  refine (Shw.tup (n := 1) (z := k + 50) fun x hx => ?_).mono (Nat.le_refl _) ?_
  · obtain ⟨t, ht, rfl⟩ := List.mem_map.mp hx
    obtain ⟨a, b, c⟩ := h t ht
    exact (Shw.tup3 (n := 0) (Shw.int (k := 10) (by omega)) (Shw.int (k := 10) (by omega)) (Shw.int c hk h0)).mono (Nat.le_refl _) (by omega)
  · rw [List.length_map]
    have : rs.length * (k + 50 + 2) ≤ 1000 * (k + 52) := Nat.mul_le_mul hl (Nat.le_refl _)
    omega
theorem plainR_mem {c : Nat} {rs : List T3} (c0 : 0 < c) {t : T3} (h : t ∈ plainR c rs) : (∃ s ∈ rs, s.1 = t.1 ∧ s.2.1 = t.2.1) ∧ 0 < t.2.2 ∧ t.2.2 < (stp c t.1 t.2.1 : Nat) := by
  unfold plainR at h
  obtain ⟨hm, hn⟩ := List.mem_filter.mp h
  obtain ⟨s, hs, rfl⟩ := List.mem_map.mp hm
  have sp := stp_pos (i := s.1) (j := s.2.1) c0
  have h1 := Int.emod_lt_of_pos s.2.2 (b := ((stp c s.1 s.2.1 : Nat) : Int)) (by omega)
  have h2 := Int.emod_nonneg s.2.2 (b := ((stp c s.1 s.2.1 : Nat) : Int)) (by omega)
  have hn : ¬ (rstR c s).2.2 = 0 := by simpa using hn
  have hn : ¬ s.2.2 % ((stp c s.1 s.2.1 : Nat) : Int) = 0 := hn
  exact ⟨⟨s, hs, rfl, rfl⟩, by show 0 < s.2.2 % ((stp c s.1 s.2.1 : Nat) : Int); omega, h1⟩
theorem plainR_len (c : Nat) (rs : List T3) : (plainR c rs).length ≤ rs.length := by
  unfold plainR
  have := List.length_filter_le (fun t : T3 => !decide (t.2.2 = 0)) (rs.map (rstR c))
  rw [List.length_map] at this
  exact this
theorem plainR_shw {c : Nat} {rs : List T3} (c0 : 0 < c) (hc : c < 2 ^ 110) (hl : rs.length ≤ 1000) (h : ∀ t ∈ rs, t.1 ≤ 100 ∧ t.2.1 ≤ 100) : Shw 2 300000 (.tuple ((plainR c rs).map rowP)) := by
  refine (rows_shw (k := 110) ?_ (fun t ht => ?_) (by decide) (by decide)).mono (Nat.le_refl _) (by decide)
  · have := plainR_len c rs
    omega
  · obtain ⟨⟨s, hs, e1, e2⟩, a, b⟩ := plainR_mem c0 ht
    have hh := h s hs
    have := stp_le c t.1 t.2.1
    exact ⟨by omega, by omega, by omega⟩
end DL
namespace DL
open PySem L2 PyProof.Rows
theorem nb {a b : Str} {p : Prop} (e : a = b) (h : (!decide (a = b)) = true) : p := by simp [e] at h
end DL
namespace DL
open PySem L2 PyProof.Rows
theorem FT.drawn.ok2 {yy : Bool} {room deep : Nat} {f : FT} (h : f.drawn yy 140 room deep) (hr : room ≤ 16) (hd : deep ≤ 6) : f.ok2 := by
  obtain ⟨a, b, c, _⟩ := h
  have := f.deg_le
  have fz := f.sz_le (m := 140)
  have fw : (140 + 40) * 2 ^ f.lev ≤ (140 + 40) * 2 ^ 6 := Nat.mul_le_mul_left _ (Nat.pow_le_pow_right (by decide) (by omega))
  exact ⟨by omega, by omega, c, by omega, by omega⟩
theorem FT.ok2.ok {f : FT} (h : f.ok2) {m : Nat} (hm : 140 ≤ m) (hb : m ≤ 4000) : f.ok m := by
  have z : f.drawn true 140 20 17 := ⟨h.1, h.2.1, h.2.2.1, fun _ => rfl⟩
  exact z.ok hm (by omega)
theorem FT.ok2.shw {f : FT} (h : f.ok2) : Shw 17 100000 f.pd := (FT.shw (m := 140) (by decide) (by decide) h.2.2.1 (by have := h.2.1; omega)).mono h.1 h.2.2.2.2
def triP : List (Nat × Nat) := (List.range 17).flatMap fun far => (List.range (far + 1)).map fun x => (x, far)
def prD2 (p : Nat × Nat) : PD := .tuple [.int (p.1 : Nat), .int ((p.2 : Nat) - (p.1 : Nat))]
def S_triangle : FSpec := ⟨fun args Q => args = [] ∧ Q (.ls none (triP.map prD2)) []⟩
def triTo (n : Nat) : List (Nat × Nat) := (List.range n).flatMap fun far => (List.range (far + 1)).map fun x => (x, far)
theorem triTo_succ (n : Nat) : triTo (n + 1) = triTo n ++ (List.range (n + 1)).map fun x => (x, n) := by
  unfold triTo
  rw [List.range_succ (n := n), List.flatMap_append]
  simp
  rw [List.range_succ, List.map_append]
  rfl
theorem triTo_len : ∀ n : Nat, (triTo n).length ≤ n * n + n
  | 0 => by decide
  | n + 1 => by
    rw [triTo_succ, List.length_append, List.length_map, List.length_range]
    have := triTo_len n
    have : (n + 1) * (n + 1) = n * n + n + n + 1 := by rw [Nat.add_mul, Nat.mul_add]; omega
    omega
abbrev N_law_triangle_2d73 : List Str := ["found", "far", "x"]
def ir_law_triangle_2d73 : TSt :=
  (sSeq (sAsg 0 (fLst aNil))
    (sSeq (sFor (iRg (aCons (.e (dC (.int 17))) aNil)) (.nm 1) (sExt 0 (.e (dFz (fLc (iRg (aCons (.e (dBin bAdd (.s 1) (.e (dC (.int 1))))) aNil)) [2] (.nm 2) cYes (dTup (aCons (.e (dVar 2)) (aCons (.e (dBin bSub (.s 1) (.s 2))) aNil))))))))
    (sRetV 0)))
theorem sp_triangle : ∀ args Q, S_triangle.sp args Q → ir_law_triangle_2d73 (endsOf args Q) (rho0 N_law_triangle_2d73 args) := by
  rintro args Q ⟨rfl, q1⟩
  refine ⟨by decide, _, rfl, fun i ρ => ∃ t, ρ = [some (.ls none ((triTo i).map prD2)), t, none], ⟨none, rfl⟩, ?_, ?_⟩
  · rintro i y ρ hx ⟨t, rfl⟩
    obtain ⟨rfl, hi⟩ := rngD_get hx
    have hi : i < 17 := hi
    have e : (0 : Int) + (i : Nat) = (i : Nat) := by omega
    rw [e]
    have ei : ((i : Nat) : Int) + 1 = ((i + 1 : Nat) : Int) := by omega
    refine ⟨by omega, ⟨rfl, rfl⟩, fun j acc ρ => acc = ((List.range j).map fun x => (x, i)).map prD2 ∧ ρ = [some (.ls none ((triTo i).map prD2)), some (.d (.int i)), none], ⟨rfl, rfl⟩, fun _ _ _ _ => trivial, ?_, ?_⟩
    · rintro j z acc ρ hz ⟨rfl, rfl⟩
      obtain ⟨rfl, hj⟩ := rngD_get hz
      have ej : (0 : Int) + (j : Nat) = (j : Nat) := by omega
      rw [ej]
      refine ⟨fun _ => ⟨?_, ?_, rfl⟩, nofun⟩
      · have hj : j < (((i : Nat) : Int) + 1).toNat := hj
        rw [List.length_map, List.length_map, List.length_range, sizeLine_eq]; omega
      · rw [List.range_succ, List.map_append, List.map_append]
        rfl
    · rintro acc ρ ⟨rfl, rfl⟩
      have el : (Wk.items (rngD 0 (((i : Nat) : Int) + 1).toNat)).list.length = i + 1 := by
        rw [show (((i : Nat) : Int) + 1).toNat = i + 1 by omega]; exact rngD_len
      rw [el]
      refine ⟨?_, some (.d (.int i)), ?_⟩
      · have a := triTo_len i
        have b : i * i ≤ 17 * 17 := Nat.mul_le_mul (by omega) (by omega)
        show ((triTo i).map prD2).length + (((List.range (i + 1)).map fun x => (x, i)).map prD2).length ≤ sizeLine
        rw [List.length_map, List.length_map, List.length_map, List.length_range, sizeLine_eq]; omega
      · rw [triTo_succ, List.map_append]
        rfl
  · rintro ρ ⟨t, rfl⟩
    exact .inl q1
end DL
namespace DL
open PySem L2 PyProof.Rows
def hrow (v : Nat → Int) (n : Nat) (x : Int) : Int := sumN n fun i => v i * fallI x i
end DL
namespace DL
open PySem L2 PyProof.Rows
end DL
namespace DL
open PySem L2 PyProof.Rows
def tabI (f : FT) (c : Nat) : List Int := (List.range c).map fun i => f.val (i : Nat) 0 % c
theorem tab_len (f : FT) (c : Nat) : (tabI f c).length = c := by unfold tabI; simp
theorem tab_at {f : FT} {c i : Nat} (h : i < c) : (tabI f c)[i]? = some (f.val (i : Nat) 0 % c) := by
  unfold tabI
  rw [List.getElem?_map, List.getElem?_range h]
  rfl
def onlyAt (k n : Nat) (a : Int) : List Int := (List.range n).map fun j => if j = k then a else 0
theorem only_get {k n j : Nat} {a : Int} (h : j < n) : (onlyAt k n a)[j]? = some (if j = k then a else 0) := by
  unfold onlyAt
  rw [List.getElem?_map, List.getElem?_range h]
  rfl
def Two (f : FT) (cs : List Nat) (r : PD) : Prop := ∃ (k c a b : Nat) (ea eb : Int), cs[k]? = some c ∧ (∀ j c', j < k → cs[j]? = some c' → (tabI f c').Nodup) ∧ Met (tabI f c) a b ∧ Crt cs (onlyAt k cs.length a) ea ∧ Crt cs (onlyAt k cs.length b) eb ∧
  r = .tuple [.int (min ea eb), .int (max ea eb)]
theorem Two.not {f : FT} {cs : List Nat} {r : PD} (h : Two f cs r) : ¬ ∀ c ∈ cs, (tabI f c).Nodup := fun z => by
  obtain ⟨k, c, a, b, ea, eb, hk, _, hm, _⟩ := h
  exact hm.not (z c (List.mem_of_getElem? hk))
theorem Two.ok {f : FT} {cs : List Nat} {r : PD} (hc : Cops cs) (h : Two f cs r) : ∃ x y : Int, r = .tuple [.int x, .int y] ∧ 0 ≤ x ∧ x < y ∧ y < (prodC cs : Nat) ∧ (f.val x 0 - f.val y 0) % ((prodC cs : Nat) : Int) = 0 := by
  obtain ⟨k, c, a, b, ea, eb, hk, hf, hm, ha, hb, rfl⟩ := h
  have kl : k < cs.length := (List.getElem?_eq_some_iff.mp hk).1
  have bl : b < c := by have := hm.2.1; rw [tab_len] at this; exact this
  have al : a < c := Nat.lt_trans hm.1 bl
  have same : f.val (a : Nat) 0 % (c : Int) = f.val (b : Nat) 0 % (c : Int) := by
    have := hm.2.2.1
    rw [tab_at al, tab_at bl] at this
    exact Option.some.inj this
  have ne : ea ≠ eb := Crt.ends ha hb hk (by rw [only_get kl, if_pos rfl]) (by rw [only_get kl, if_pos rfl]) (by
    rw [Int.emod_eq_of_lt (by omega) (by omega), Int.emod_eq_of_lt (by omega) (by omega)]
    have := hm.1
    omega)
  have all : ∀ d ∈ cs, f.val ea 0 % (d : Int) = f.val eb 0 % (d : Int) := fun d hd => by
    obtain ⟨j, hj⟩ := List.mem_iff_getElem?.mp hd
    have jl : j < cs.length := (List.getElem?_eq_some_iff.mp hj).1
    have x := ha.2.2 j d _ hj (only_get jl)
    have y := hb.2.2 j d _ hj (only_get jl)
    by_cases e : j = k
    · subst e
      rw [hk] at hj
      cases hj
      rw [if_pos rfl] at x y
      rw [FT.val_cong x rfl f, FT.val_cong y rfl f]
      exact same
    · rw [if_neg e] at x y
      exact FT.val_cong (x.trans y.symm) rfl f
  have dv : ((prodC cs : Nat) : Int) ∣ f.val ea 0 - f.val eb 0 := dvd_prod hc fun d hd => emod_iff.mp (all d hd)
  have dv2 : ((prodC cs : Nat) : Int) ∣ f.val eb 0 - f.val ea 0 := by
    have := Int.dvd_neg.mpr dv
    rw [Int.neg_sub] at this
    exact this
  have z1 := ha.1
  have z2 := ha.2.1
  have z3 := hb.1
  have z4 := hb.2.1
  rcases Int.lt_or_gt_of_ne ne with lt | gt
  · refine ⟨_, _, rfl, ?_⟩
    rw [show min ea eb = ea by omega, show max ea eb = eb by omega]
    exact ⟨z1, lt, z4, Int.emod_eq_zero_of_dvd dv⟩
  · refine ⟨_, _, rfl, ?_⟩
    rw [show min ea eb = eb by omega, show max ea eb = ea by omega]
    exact ⟨z3, gt, z2, Int.emod_eq_zero_of_dvd dv2⟩
end DL
namespace DL
open PySem L2 PyProof.Rows
end DL
namespace DL
open PySem L2 PyProof.Rows
abbrev N_law_step_b26f : List Str := ["clock", "i", "j"]
def ir_law_step_b26f (S_law_common_ae84 : FSpec) (S_law_falling_d92b : FSpec) : TSt :=
  (sRet (fD (dBin bFdiv (.s 0) (.e (dFz (fCall S_law_common_ae84 (aCons (.e (dVar 0)) (aCons (.e (dBin bMulI (.e (dFz (fCall S_law_falling_d92b (aCons (.e (dVar 1)) (aCons (.e (dVar 1)) aNil))))) (.e (dFz (fCall S_law_falling_d92b (aCons (.e (dVar 2)) (aCons (.e (dVar 2)) aNil))))))) aNil))))))))
theorem sp_lstep : ∀ args Q, S_step.sp args Q → ir_law_step_b26f S_common S_falling (endsOf args Q) (rho0 N_law_step_b26f args) := by
  rintro args Q ⟨c, i, j, rfl, c0, hc, hi, hj, q⟩
  have e : fallI (i : Nat) i * fallI (j : Nat) j = (((fac2 i j).toNat : Nat) : Int) := (Int.toNat_of_nonneg (Int.le_of_lt (fac2_pos i j))).symm
  refine ⟨rfl, (i : Nat), i, 8, rfl, by omega, by decide, by omega, by omega, rfl, (j : Nat), j, 8, rfl, by omega, by decide, by omega, by omega, mulOk 1101 1101 (fac_l hi) (fac_l hj), rfl, c, (fac2 i j).toNat, by rw [← e], ?_⟩
  have gp : 0 < Nat.gcd c (fac2 i j).toNat := Nat.gcd_pos_of_pos_left _ c0
  have gl : Nat.gcd c (fac2 i j).toNat ≤ c := Nat.le_of_dvd c0 (Nat.gcd_dvd_left _ _)
  refine ⟨⟨by omega, Nat.lt_trans (log2_const (i := ((Nat.gcd c (fac2 i j).toNat : Nat) : Int)) (k := 110) (by rw [Int.natAbs_natCast]; omega)) (by decide)⟩, ?_⟩
  have z : ((c : Nat) : Int) / ((Nat.gcd c (fac2 i j).toNat : Nat) : Int) = ((stp c i j : Nat) : Int) := (Int.natCast_ediv _ _).symm
  rw [← z] at q
  exact q
end DL
namespace DL
open PySem L2 PyProof.Rows
end DL
namespace DL
open PySem L2 PyProof.Rows
def PZ (h : Int → Int) : Prop := ∃ d, Pol d (fun x _ => h x)
theorem PZ.const (a : Int) : PZ fun _ => a := ⟨0, Pol.const a⟩
theorem PZ.id : PZ fun x => x := ⟨1, by
  have e : (fun x _ => x : F2I) = trm 1 1 0 := by funext u v; simp [trm, fallI]
  rw [e]
  exact .trm _ _ _ (by decide)⟩
theorem PZ.add {f g : Int → Int} (hf : PZ f) (hg : PZ g) : PZ fun x => f x + g x := by
  obtain ⟨d, hf⟩ := hf
  obtain ⟨e, hg⟩ := hg
  exact ⟨max d e, Pol.add (hf.mono (Nat.le_max_left _ _)) (hg.mono (Nat.le_max_right _ _))⟩
theorem PZ.mul {f g : Int → Int} (hf : PZ f) (hg : PZ g) : PZ fun x => f x * g x := by
  obtain ⟨d, hf⟩ := hf
  obtain ⟨e, hg⟩ := hg
  exact ⟨d + e, hf.mul hg⟩
theorem PZ.neg {f : Int → Int} (hf : PZ f) : PZ fun x => - f x := by
  have h := hf.mul (PZ.const (-1))
  have e : (fun x => f x * -1) = fun x => - f x := by funext x; omega
  rw [e] at h
  exact h
theorem PZ.sub {f g : Int → Int} (hf : PZ f) (hg : PZ g) : PZ fun x => f x - g x := by
  have h := hf.add hg.neg
  have e : (fun x => f x + - g x) = fun x => f x - g x := by funext x; omega
  rw [e] at h
  exact h
theorem PZ.pow {f : Int → Int} (hf : PZ f) (n : Nat) : PZ fun x => f x ^ n := by
  obtain ⟨d, hf⟩ := hf
  exact ⟨_, hf.pow n⟩
theorem PZ.fall {h : Int → Int} (hh : PZ h) : ∀ n : Nat, PZ fun x => fallI (h x) n
  | 0 => PZ.const 1
  | n + 1 => (PZ.fall hh n).mul (hh.sub (PZ.const _))
end DL
namespace DL
open PySem L2 PyProof.Rows
theorem PZ.row {h : Int → Int} (hh : PZ h) (v : Nat → Int) : ∀ n : Nat, PZ fun x => hrow v n (h x)
  | 0 => PZ.const 0
  | n + 1 => (PZ.row hh v n).add ((PZ.const (v n)).mul (hh.fall n))
def valN : List (Nat × Int) → Nat → Option Int
  | [], _ => none
  | p :: r, k => if p.1 = k then some p.2 else valN r k
def putNk (ks : List (Nat × Int)) (k : Nat) (x : Int) : List (Nat × Int) := if k ∈ ks.map (·.1) then ks.map (fun p => if p.1 = k then (p.1, x) else p) else ks ++ [(k, x)]
theorem keys_putN (ks : List (Nat × Int)) (k : Nat) (x : Int) : (putNk ks k x).map (·.1) = if k ∈ ks.map (·.1) then ks.map (·.1) else ks.map (·.1) ++ [k] := by
  unfold putNk
  split
  · rw [List.map_map]
    refine List.map_congr_left fun p _ => ?_
    show (if p.1 = k then (p.1, x) else p).1 = p.1
    split <;> rfl
  · rw [List.map_append]
    rfl
theorem valN_app (ks : List (Nat × Int)) (k : Nat) (x : Int) (j : Nat) (h : ¬ k ∈ ks.map (·.1)) : valN (ks ++ [(k, x)]) j = if j = k then some x else valN ks j := by
  induction ks with
  | nil =>
    show (if k = j then some x else none) = _
    by_cases e : j = k
    · rw [if_pos e, if_pos e.symm]
    · rw [if_neg e, if_neg fun z => e z.symm]; rfl
  | cons p r ih =>
    rw [List.map_cons, List.mem_cons] at h
    show (if p.1 = j then some p.2 else valN (r ++ [(k, x)]) j) = if j = k then some x else if p.1 = j then some p.2 else valN r j
    rw [ih fun z => h (.inr z)]
    by_cases e : p.1 = j
    · have : j ≠ k := fun z => h (.inl (by rw [e, z]))
      rw [if_pos e, if_neg this, if_pos e]
    · rw [if_neg e, if_neg e]
theorem valN_upd (k : Nat) (x : Int) (j : Nat) : ∀ ks : List (Nat × Int), k ∈ ks.map (·.1) → valN (ks.map fun p => if p.1 = k then (p.1, x) else p) j = if j = k then some x else valN ks j := by
  have off : j ≠ k → ∀ ks : List (Nat × Int), valN (ks.map fun p => if p.1 = k then (p.1, x) else p) j = valN ks j := fun hj ks => by
    induction ks with
    | nil => rfl
    | cons p r ih =>
      rw [List.map_cons]
      by_cases e : p.1 = k
      · rw [if_pos e, valN, valN, ih, if_neg (show ¬ p.1 = j by omega), if_neg (show ¬ p.1 = j by omega)]
      · rw [if_neg e, valN, valN, ih]
  intro ks h
  by_cases hj : j = k
  · subst hj
    rw [if_pos rfl]
    induction ks with
    | nil => cases h
    | cons p r ih =>
      rw [List.map_cons]
      by_cases e : p.1 = j
      · rw [if_pos e, valN, if_pos e]
      · rw [if_neg e, valN, if_neg e]
        rw [List.map_cons, List.mem_cons] at h
        exact ih (h.resolve_left fun z => e z.symm)
  · rw [if_neg hj]; exact off hj ks
theorem valN_put (ks : List (Nat × Int)) (k : Nat) (x : Int) (j : Nat) : valN (putNk ks k x) j = if j = k then some x else valN ks j := by
  unfold putNk
  split
  · rename_i h
    exact valN_upd k x j ks h
  · rename_i h
    exact valN_app ks k x j h
def sumAt (ts : List T3) (k : Nat) : Int := ((ts.filter fun t => decide (t.1 = k)).map (·.2.2)).sum
theorem sumAt_app (a b : List T3) (k : Nat) : sumAt (a ++ b) k = sumAt a k + sumAt b k := by
  unfold sumAt
  rw [List.filter_append, List.map_append, List.sum_append]
def Tog (ts : List T3) (ks : List (Nat × Int)) : Prop := (ks.map (·.1)).Nodup ∧ (∀ k, k ∈ ks.map (·.1) → k ∈ ts.map (·.1)) ∧ (∀ k, k ∈ ts.map (·.1) → k ∈ ks.map (·.1)) ∧ ∀ k, (valN ks k).getD 0 = sumAt ts k
theorem Tog.nil : Tog [] [] := ⟨List.nodup_nil, fun _ h => h, fun _ h => h, fun _ => rfl⟩
theorem Tog.put {ts : List T3} {ks : List (Nat × Int)} (h : Tog ts ks) (t : T3) : Tog (ts ++ [t]) (putNk ks t.1 ((valN ks t.1).getD 0 + t.2.2)) := by
  obtain ⟨h1, h2, h3, h4⟩ := h
  refine ⟨?_, fun k hk => ?_, fun k hk => ?_, fun k => ?_⟩
  · rw [keys_putN]
    split
    · exact h1
    · rename_i z
      rw [List.nodup_append]
      refine ⟨h1, by simp, fun a ha b hb e => ?_⟩
      rw [List.mem_singleton.mp hb] at e
      exact z (e ▸ ha)
  · rw [keys_putN] at hk
    rw [List.map_append, List.mem_append]
    split at hk
    · exact .inl (h2 k hk)
    · rcases List.mem_append.mp hk with z | z
      · exact .inl (h2 k z)
      · exact .inr z
  · rw [keys_putN]
    rw [List.map_append, List.mem_append] at hk
    split
    · rename_i z
      rcases hk with hk | hk
      · exact h3 k hk
      · rw [List.mem_singleton.mp hk]; exact z
    · rw [List.mem_append]
      rcases hk with hk | hk
      · exact .inl (h3 k hk)
      · exact .inr hk
  · rw [valN_put, sumAt_app, ← h4 k]
    have one : sumAt [t] k = if t.1 = k then t.2.2 else 0 := by
      unfold sumAt
      by_cases e : t.1 = k
      · simp [e]
      · simp [e]
    rw [one]
    by_cases e : k = t.1
    · rw [if_pos e, if_pos e.symm, e]; rfl
    · rw [if_neg e, if_neg fun z => e z.symm]; omega
end DL
namespace DL
def Rel2 (R : Nat → Nat → Prop) (T L : Nat) : Prop := 1 ≤ L ∧ ∀ s t, R s t ↔ (s = t ∨ (T ≤ s ∧ T ≤ t ∧ s % L = t % L))
theorem Rel2.le {R : Nat → Nat → Prop} {T L T' L' : Nat} (h : Rel2 R T L) (h' : Rel2 R T' L') : T' ≤ T ∧ L' ∣ L := by
  have a : R T (T + L) := (h.2 _ _).mpr (.inr ⟨Nat.le_refl _, Nat.le_add_right _ _, by rw [Nat.add_mod_right]⟩)
  rcases (h'.2 _ _).mp a with e | ⟨l1, _, e⟩
  · have := h.1; omega
  · refine ⟨l1, ?_⟩
    have : (T + L - T) % L' = 0 := Nat.sub_mod_eq_zero_of_mod_eq e.symm
    rw [Nat.add_sub_cancel_left] at this
    exact Nat.dvd_of_mod_eq_zero this
theorem Rel2.none : Rel2 (fun _ _ => True) 0 1 := ⟨Nat.le_refl _, fun s t => ⟨fun _ => .inr ⟨Nat.zero_le _, Nat.zero_le _, by rw [Nat.mod_one, Nat.mod_one]⟩, fun _ => trivial⟩⟩
theorem Rel2.congr {R R' : Nat → Nat → Prop} {T L : Nat} (h : Rel2 R T L) (e : ∀ s t, R' s t ↔ R s t) : Rel2 R' T L := ⟨h.1, fun s t => (e s t).trans (h.2 s t)⟩
theorem mod_lcm {s t a b : Nat} : (s % a = t % a ∧ s % b = t % b) ↔ s % Nat.lcm a b = t % Nat.lcm a b := by
  have key : ∀ {m s t : Nat}, s ≤ t → (s % m = t % m ↔ m ∣ t - s) := fun {m s t} h => by
    refine ⟨fun e => Nat.dvd_of_mod_eq_zero (Nat.sub_mod_eq_zero_of_mod_eq e.symm), fun ⟨k, hk⟩ => ?_⟩
    have : t = s + m * k := by omega
    rw [this, Nat.add_mul_mod_self_left]
  have go : ∀ {s t : Nat}, s ≤ t → ((s % a = t % a ∧ s % b = t % b) ↔ s % Nat.lcm a b = t % Nat.lcm a b) := fun {s t} h => by
    rw [key h, key h, key h]
    exact ⟨fun ⟨x, y⟩ => Nat.lcm_dvd x y, fun x => ⟨Nat.dvd_trans (Nat.dvd_lcm_left _ _) x, Nat.dvd_trans (Nat.dvd_lcm_right _ _) x⟩⟩
  rcases Nat.le_total s t with h | h
  · exact go h
  · have := go h
    exact ⟨fun ⟨x, y⟩ => (this.mp ⟨x.symm, y.symm⟩).symm, fun x => by have := this.mpr x.symm; exact ⟨this.1.symm, this.2.symm⟩⟩
theorem Rel2.and {R R' : Nat → Nat → Prop} {T L T' L' : Nat} (h : Rel2 R T L) (h' : Rel2 R' T' L') : Rel2 (fun s t => R s t ∧ R' s t) (max T T') (Nat.lcm L L') := by
  refine ⟨Nat.lcm_pos h.1 h'.1, fun s t => ?_⟩
  show (R s t ∧ R' s t) ↔ _
  rw [h.2, h'.2, ← mod_lcm]
  constructor
  · rintro ⟨e | ⟨a, b, c⟩, e' | ⟨a', b', c'⟩⟩
    · exact .inl e
    · exact .inl e
    · exact .inl e'
    · exact .inr ⟨by omega, by omega, c, c'⟩
  · rintro (e | ⟨a, b, c, c'⟩)
    · exact ⟨.inl e, .inl e⟩
    · exact ⟨.inr ⟨by omega, by omega, c⟩, .inr ⟨by omega, by omega, c'⟩⟩
def itN2 (ns : List Int) : Nat → Int → Int
  | 0, x => x
  | t + 1, x => ns.getD (itN2 ns t x).toNat 0
theorem itN2_bd {ns : List Int} {c : Nat} (hl : ns.length = c) (hb : ∀ n ∈ ns, 0 ≤ n ∧ n < (c : Nat)) {x : Int} (h0 : 0 ≤ x ∧ x < (c : Nat)) : ∀ t, 0 ≤ itN2 ns t x ∧ itN2 ns t x < (c : Nat)
  | 0 => h0
  | t + 1 => by
    have ih := itN2_bd hl hb h0 t
    have lt : (itN2 ns t x).toNat < ns.length := by omega
    refine hb _ ?_
    show ns.getD _ 0 ∈ ns
    rw [List.getD_eq_getElem?_getD, List.getElem?_eq_getElem lt]
    exact List.getElem_mem lt
end DL
namespace DL
open PySem L2 PyProof.Rows
def trN (ns : List Int) (b : Int) (n : Nat) : List Int := (List.range n).map fun k => itN2 ns k b
theorem trN_len (ns : List Int) (b : Int) (n : Nat) : (trN ns b n).length = n := by unfold trN; simp
def Apart2 (ns : List Int) (b : Int) (n : Nat) : Prop := ∀ i j, i < j → j < n → itN2 ns i b ≠ itN2 ns j b
theorem Apart2.snoc {ns : List Int} {b : Int} {n : Nat} (h : Apart2 ns b n) (hn : ∀ k, k < n → itN2 ns k b ≠ itN2 ns n b) : Apart2 ns b (n + 1) := fun i j hij hj => by
  by_cases e : j < n
  · exact h i j hij e
  · have : j = n := by omega
    subst this
    exact hn i hij
theorem Apart2.le {ns : List Int} {c : Nat} {b : Int} {n : Nat} (hl : ns.length = c) (hb : ∀ n ∈ ns, 0 ≤ n ∧ n < (c : Nat)) (h0 : 0 ≤ b ∧ b < (c : Nat)) (h : Apart2 ns b n) : n ≤ c := by
  have nd : (trN ns b n).Nodup := by
    unfold trN
    rw [List.nodup_iff_pairwise_ne, List.pairwise_map]
    exact List.Pairwise.imp_of_mem (fun {i j} hi hj (r : i < j) => h i j r (List.mem_range.mp hj)) List.pairwise_lt_range
  have sub : ∀ {a b : List Int}, a.Nodup → (∀ x ∈ a, x ∈ b) → a.length ≤ b.length := fun {a b} ha hs => by
    induction a generalizing b with
    | nil => exact Nat.zero_le _
    | cons x r ih =>
      obtain ⟨h1, h2⟩ := List.nodup_cons.mp ha
      have hx := hs x List.mem_cons_self
      have := ih (b := b.erase x) h2 fun y hy => (List.mem_erase_of_ne (fun e => h1 (by rw [← e]; exact hy))).mpr (hs y (List.mem_cons_of_mem _ hy))
      rw [List.length_erase_of_mem hx] at this
      have p := List.length_pos_of_mem hx
      rw [List.length_cons]
      omega
  have := sub (b := (List.range c).map fun n : Nat => (n : Int)) nd fun x hx => by
    unfold trN at hx
    obtain ⟨k, _, rfl⟩ := List.mem_map.mp hx
    have z := itN2_bd hl hb h0 k
    exact List.mem_map.mpr ⟨(itN2 ns k b).toNat, List.mem_range.mpr (by omega), by omega⟩
  rw [trN_len] at this
  simpa using this
end DL
namespace DL
open PySem L2 PyProof.Rows
def Inv (f : FT) (c : Nat) (g : Nat → Int) : Prop := ∀ b : Nat, b < c → g (f.val (b : Nat) 0 % (c : Int)).toNat = ((b : Nat) : Int)
end DL
namespace DL
open PySem L2 PyProof.Rows
end DL
namespace DL
open PySem L2 PyProof.Rows
def FT.put : FT → FT → FT
  | .int i, _ => .int i
  | .x, g => g
  | .y, _ => .y
  | .add a b, g => .add (a.put g) (b.put g)
  | .sub a b, g => .sub (a.put g) (b.put g)
  | .mul a b, g => .mul (a.put g) (b.put g)
  | .pow a n, g => .pow (a.put g) n
end DL
namespace DL
open PySem L2 PyProof.Rows
end DL
namespace DL
open PySem L2 PyProof.Rows
section
variable {κ : Type} [DecidableEq κ]
theorem valP_map (k k' : κ) (x : PD) : ∀ kvs : List (κ × PD), valP (kvs.map fun p => if p.1 = k then (p.1, x) else p) k' = if k = k' then (if hasP kvs k = true then some x else none) else valP kvs k'
  | [] => by simp [valP, hasP]
  | p :: r => by
    have ih := valP_map k k' x r
    rw [List.map_cons]
    by_cases h1 : p.1 = k
    · by_cases h2 : k = k'
      · subst h1; subst h2; simp [valP, hasP]
      · rw [if_neg h2] at ih ⊢
        simp only [if_pos h1, valP]
        rw [if_neg (by rw [h1]; exact h2), if_neg (by rw [h1]; exact h2)]
        exact ih
    · simp only [if_neg h1, valP]
      by_cases h3 : p.1 = k'
      · rw [if_pos h3, if_pos h3]
        rw [if_neg (fun e => h1 (by rw [h3, e]))]
      · rw [if_neg h3, if_neg h3, ih]
        have : hasP (p :: r) k = hasP r k := by simp [hasP, h1]
        rw [this]
theorem valP_app (k' : κ) (k : κ) (x : PD) : ∀ kvs : List (κ × PD), valP (kvs ++ [(k, x)]) k' = match valP kvs k' with
    | some y => some y
    | none => if k = k' then some x else none
  | [] => by simp [valP]
  | p :: r => by
    rw [List.cons_append]
    unfold valP
    by_cases h : p.1 = k'
    · rw [if_pos h, if_pos h]
    · rw [if_neg h, if_neg h, valP_app k' k x r]
theorem hasP_val (k : κ) : ∀ kvs : List (κ × PD), hasP kvs k = (valP kvs k).isSome
  | [] => rfl
  | p :: r => by
    have ih := hasP_val k r
    unfold valP
    by_cases h : p.1 = k
    · rw [if_pos h]; simp [hasP, h]
    · rw [if_neg h, ← ih]; simp [hasP, h]
theorem val_put (kvs : List (κ × PD)) (k k' : κ) (x : PD) : valP (putP kvs k x) k' = if k = k' then some x else valP kvs k' := by
  unfold putP
  by_cases h : hasP kvs k = true
  · rw [if_pos h, valP_map, h, if_pos rfl]
  · rw [if_neg h, valP_app]
    rw [hasP_val] at h
    by_cases e : k = k'
    · subst e
      rw [if_pos rfl, if_pos rfl]
      cases z : valP kvs k with
      | none => rfl
      | some y => rw [z] at h; exact absurd rfl h
    · rw [if_neg e, if_neg e]
      cases valP kvs k' <;> rfl
end
def keyR (i j : Nat) : List Key := [.inl (i : Nat), .inl (j : Nat)]
def dctR (rs : List T3) : List (List Key × PD) := rs.foldl (fun acc t => putP acc (keyR t.1 t.2.1) (.int t.2.2)) []
def RowsAt (rs : List T3) (v : Nat → Nat → Int) : Prop := (∀ t ∈ rs, t.2.2 = v t.1 t.2.1) ∧ ∀ i j, i ≤ 16 → j ≤ 16 → v i j ≠ 0 → (i, j, v i j) ∈ rs
theorem keyR_inj {i j k l : Nat} (h : keyR i j = keyR k l) : i = k ∧ j = l := by
  unfold keyR at h
  simp at h
  omega
theorem dctR_at {v : Nat → Nat → Int} {i j : Nat} {rs : List T3} (h : ∀ t ∈ rs, t.2.2 = v t.1 t.2.1) : valP (dctR rs) (keyR i j) = if (∃ t ∈ rs, t.1 = i ∧ t.2.1 = j) then some (.int (v i j)) else none := by
  have gen : ∀ (rs : List T3) (acc : List (List Key × PD)), (∀ t ∈ rs, t.2.2 = v t.1 t.2.1) → valP (rs.foldl (fun acc t => putP acc (keyR t.1 t.2.1) (.int t.2.2)) acc) (keyR i j) = if (∃ t ∈ rs, t.1 = i ∧ t.2.1 = j) then some (.int (v i j)) else valP acc (keyR i j) := by
    intro rs
    induction rs with
    | nil => intro acc _; simp
    | cons t rs ih =>
      intro acc h
      rw [List.foldl_cons, ih _ fun s hs => h s (List.mem_cons_of_mem _ hs), val_put]
      have ht := h t (List.mem_cons_self ..)
      by_cases e1 : ∃ s ∈ rs, s.1 = i ∧ s.2.1 = j
      · have e2 : ∃ s ∈ t :: rs, s.1 = i ∧ s.2.1 = j := e1.elim fun s hs => ⟨s, List.mem_cons_of_mem _ hs.1, hs.2⟩
        rw [if_pos e1, if_pos e2]
      · rw [if_neg e1]
        by_cases e : keyR t.1 t.2.1 = keyR i j
        · obtain ⟨k1, k2⟩ := keyR_inj e
          have e2 : ∃ s ∈ t :: rs, s.1 = i ∧ s.2.1 = j := ⟨t, List.mem_cons_self .., k1, k2⟩
          rw [if_pos e, if_pos e2, ht, k1, k2]
        · have e2 : ¬ ∃ s ∈ t :: rs, s.1 = i ∧ s.2.1 = j := fun ⟨s, hs, k1, k2⟩ => by
            rcases List.mem_cons.mp hs with rfl | hs
            · exact e (by rw [k1, k2])
            · exact e1 ⟨s, hs, k1, k2⟩
          rw [if_neg e, if_neg e2]
  have := gen rs [] h
  exact this
theorem dctR_get {rs : List T3} {v : Nat → Nat → Int} (h : RowsAt rs v) {i j : Nat} (hi : i ≤ 16) (hj : j ≤ 16) : (valP (dctR rs) (keyR i j)).getD (.int 0) = .int (v i j) := by
  rw [dctR_at h.1]
  split
  · rfl
  · rename_i no
    by_cases z : v i j = 0
    · rw [z]; rfl
    · exact absurd ⟨_, h.2 i j hi hj z, rfl, rfl⟩ no
def CR (s : Nat) (a : Int) (z : Nat) (b c : Int) : Prop := 0 ≤ c ∧ c < (s : Int) * ((z / Nat.gcd s z : Nat) : Int) ∧ (s : Int) ∣ c - a ∧ (z : Int) ∣ c - b
end DL
namespace DL
open PySem L2 PyProof.Rows
theorem rD_of {f : F2I} {i j : Nat} (hi : i < 17) (hj : j < 17) (h : dd i j f ≠ 0) : (i, j, cof f i j) ∈ rD f 17 := by
  unfold rD rI
  refine List.mem_flatMap.mpr ⟨i, List.mem_range.mpr hi, List.mem_flatMap.mpr ⟨j, List.mem_range.mpr hj, ?_⟩⟩
  rw [if_neg h]
  exact List.mem_singleton.mpr rfl
end DL
namespace DL
open PySem L2 PyProof.Rows
abbrev N2 := Nat × Nat
def pLt (p q : N2) : Prop := p.1 < q.1 ∨ (p.1 = q.1 ∧ p.2 < q.2)
def allP : List N2 := (List.range 17).flatMap fun i => (List.range 17).map fun j => (i, j)
instance (p q : N2) : Decidable (pLt p q) := by unfold pLt; exact inferInstance
theorem allP_pw : allP.Pairwise pLt := by decide +kernel
theorem allP_mem {p : N2} : p ∈ allP ↔ p.1 < 17 ∧ p.2 < 17 := by
  unfold allP
  constructor
  · intro h
    obtain ⟨i, hi, h⟩ := List.mem_flatMap.mp h
    obtain ⟨j, hj, rfl⟩ := List.mem_map.mp h
    exact ⟨List.mem_range.mp hi, List.mem_range.mp hj⟩
  · intro ⟨h1, h2⟩
    exact List.mem_flatMap.mpr ⟨p.1, List.mem_range.mpr h1, List.mem_map.mpr ⟨p.2, List.mem_range.mpr h2, rfl⟩⟩
theorem flatMap_if {α β : Type} (P : α → Prop) [DecidablePred P] (g : α → β) : ∀ l : List α, (l.flatMap fun x => if P x then [] else [g x]) = (l.filter fun x => !decide (P x)).map g
  | [] => rfl
  | x :: l => by
    rw [List.flatMap_cons, flatMap_if P g l]
    by_cases h : P x
    · rw [if_pos h, List.filter_cons_of_neg (by simp [h])]; rfl
    · rw [if_neg h, List.filter_cons_of_pos (by simp [h]), List.map_cons]; rfl
theorem rD_all (f : F2I) : rD f 17 = (allP.filter fun p => !decide (dd p.1 p.2 f = 0)).map fun p => (p.1, p.2, cof f p.1 p.2) := by
  rw [← flatMap_if (fun p : N2 => dd p.1 p.2 f = 0) (fun p : N2 => (p.1, p.2, cof f p.1 p.2)) allP]
  unfold rD rI allP
  rw [List.flatMap_assoc]
  simp only [List.flatMap_map]
structure GOk (kvs : List (List Key × PD)) (v : Nat → Nat → Int) : Prop where
  at_ : ∀ i j, i < 17 → j < 17 → (valP kvs (keyR i j)).getD (.int 0) = .int (v i j)
  keys : ∃ ns : List N2, kvs.map (·.1) = ns.map (fun p => keyR p.1 p.2) ∧ ns.Nodup ∧ ∀ p ∈ ns, p.1 < 17 ∧ p.2 < 17
theorem GOk.nil : GOk [] fun _ _ => 0 := ⟨fun _ _ _ _ => rfl, [], rfl, List.nodup_nil, fun _ h => by cases h⟩
theorem hasP_key {kvs : List (List Key × PD)} {k : List Key} : hasP kvs k = true ↔ k ∈ kvs.map (·.1) := by
  unfold hasP
  rw [List.any_eq_true]
  constructor
  · rintro ⟨p, hp, e⟩
    exact List.mem_map.mpr ⟨p, hp, of_decide_eq_true e⟩
  · intro h
    obtain ⟨p, hp, e⟩ := List.mem_map.mp h
    exact ⟨p, hp, decide_eq_true e⟩
theorem GOk.put {kvs : List (List Key × PD)} {v : Nat → Nat → Int} (h : GOk kvs v) {i j : Nat} (hi : i < 17) (hj : j < 17) (x : Int) : GOk (putP kvs (keyR i j) (.int x)) fun k l => if k = i ∧ l = j then x else v k l := by
  refine ⟨fun k l hk hl => ?_, ?_⟩
  · rw [val_put]
    by_cases e : k = i ∧ l = j
    · rw [if_pos e, if_pos (by rw [e.1, e.2])]; rfl
    · rw [if_neg e, if_neg (fun z => e (by obtain ⟨a, b⟩ := keyR_inj z; exact ⟨a.symm, b.symm⟩))]
      exact h.at_ k l hk hl
  · obtain ⟨ns, e, nd, b⟩ := h.keys
    unfold putP
    by_cases hp : hasP kvs (keyR i j) = true
    · rw [if_pos hp]
      refine ⟨ns, ?_, nd, b⟩
      rw [List.map_map, ← e]
      apply List.map_congr_left
      intro p _
      show (if p.1 = keyR i j then (p.1, PyData.int x) else p).1 = p.1
      split <;> rfl
    · rw [if_neg hp]
      refine ⟨ns ++ [(i, j)], by rw [List.map_append, List.map_append, e]; rfl, ?_, fun p hp' => ?_⟩
      · refine List.nodup_append.mpr ⟨nd, List.nodup_cons.mpr ⟨by simp, List.nodup_nil⟩, fun a ha b hb => ?_⟩
        have hb := List.mem_singleton.mp hb
        subst hb
        rintro rfl
        exact hp (hasP_key.mpr (by rw [e]; exact List.mem_map.mpr ⟨_, ha, rfl⟩))
      · rcases List.mem_append.mp hp' with hp' | hp'
        · exact b p hp'
        · have := List.mem_singleton.mp hp'
          subst this
          exact ⟨hi, hj⟩
theorem nd_le {α : Type} [DecidableEq α] : ∀ {l m : List α}, l.Nodup → (∀ x ∈ l, x ∈ m) → l.length ≤ m.length
  | [], _, _, _ => Nat.zero_le _
  | a :: l, m, h, s => by
    obtain ⟨h1, h2⟩ := List.nodup_cons.mp h
    have ha := s a List.mem_cons_self
    have := nd_le (l := l) (m := m.erase a) h2 fun x hx => (List.mem_erase_of_ne (fun z => h1 (by rw [← z]; exact hx))).mpr (s x (List.mem_cons_of_mem _ hx))
    rw [List.length_erase_of_mem ha] at this
    have := List.length_pos_of_mem ha
    rw [List.length_cons]
    omega
theorem GOk.len {kvs : List (List Key × PD)} {v : Nat → Nat → Int} (h : GOk kvs v) : kvs.length ≤ 289 := by
  obtain ⟨ns, e, nd, b⟩ := h.keys
  have l1 : kvs.length = ns.length := by
    have := congrArg List.length e
    rwa [List.length_map, List.length_map] at this
  have := nd_le nd fun p hp => allP_mem.mpr (b p hp)
  have e2 : allP.length = 289 := by decide +kernel
  omega
theorem GOk.dct : ∀ {rs : List T3} {kvs : List (List Key × PD)} {v : Nat → Nat → Int}, (∀ t ∈ rs, t.1 < 17 ∧ t.2.1 < 17) → GOk kvs v →
    ∃ w, GOk (rs.foldl (fun acc t => putP acc (keyR t.1 t.2.1) (.int t.2.2)) kvs) w
  | [], _, v, _, h => ⟨v, h⟩
  | t :: rs, kvs, v, hr, h => GOk.dct (rs := rs) (fun s hs => hr s (List.mem_cons_of_mem _ hs)) (h.put (hr t List.mem_cons_self).1 (hr t List.mem_cons_self).2 t.2.2)
theorem rD_lt {f : F2I} : ∀ t ∈ rD f 17, t.1 < 17 ∧ t.2.1 < 17 := fun t ht => by
  obtain ⟨a, b, _⟩ := rD_mem ht
  exact ⟨a, b⟩
theorem rD_at (f : F2I) : RowsAt (rD f 17) (cof f) := by
  refine ⟨fun t ht => (rD_mem ht).2.2.1, fun i j hi hj hv => rD_of (by omega) (by omega) fun z => hv (cof0 z)⟩
theorem GOk.start (f : F2I) : GOk (dctR (rD f 17)) (cof f) := by
  obtain ⟨w, h⟩ := GOk.dct (rs := rD f 17) rD_lt GOk.nil
  exact ⟨fun i j hi hj => dctR_get (rD_at f) (by omega) (by omega), h.keys⟩
def upP (p : N2) : P2 := (((p.1 : Nat) : Int), ((p.2 : Nat) : Int))
theorem upP_inj {p q : N2} (h : upP p = upP q) : p = q := by
  have h1 := congrArg Prod.fst h
  have h2 := congrArg Prod.snd h
  have h1 : ((p.1 : Nat) : Int) = (q.1 : Nat) := h1
  have h2 : ((p.2 : Nat) : Int) = (q.2 : Nat) := h2
  exact Prod.ext (by omega) (by omega)
end DL
namespace DL
open PySem L2 PyProof.Rows
section
variable {w : Wk} {ρ1 : En} {vs : List Nat} {pt : Pt} {c : TTd} {el : TD} {Q : Lc → En → Prop}
end
section
variable {w : Wk} {ρ1 : En} {vs : List Nat} {pt : Pt} {c : TTd} {el : TD} {Q : Lc → En → Prop} {α : Type}
end
section
variable {α : Type} {xs : List α} {g f : α → PD} {φ : α → Int} {w : Wk} {n : Nat} {y : PD} {z : α}
end
end DL
namespace DL
open PySem L2 PyProof.Rows
mutual
def sml (m : Nat) : PD → Bool
  | .int i => decide (i.natAbs < 2 ^ m)
  | .list xs => decide (xs.length ≤ 1000) && smlA m xs
  | .tuple xs => decide (xs.length ≤ 1000) && smlA m xs
  | .dict _ => false
  | .str s => decide (s.length ≤ 1000)
  | _ => true
def smlA (m : Nat) : List PD → Bool
  | [] => true
  | x :: r => sml m x && smlA m r
end
end DL
namespace DL
open PySem L2 PyProof.Rows
def sumXY (R : List T3) : F2I := fun x y => (R.map fun t => t.2.2 * fallI x t.1 * fallI y t.2.1).sum
abbrev key2 (t : T3) : N2 := (t.1, t.2.1)
theorem pLt_irr (p : N2) : ¬ pLt p p := fun z => by unfold pLt at z; omega
theorem rD_tells {d : Nat} {h : F2I} (p : Pol d h) (hd : d ≤ 16) (x y : Int) : sumXY (rD h 17) x y = h x y := by
  have e := rD_sum h (fun i j => fallI x i * fallI y j) 17
  have w := p.whole (N := 17) (by omega) x y
  rw [w]
  have e2 : sumXY (rD h 17) x y = ((rD h 17).map fun t => t.2.2 * (fallI x t.1 * fallI y t.2.1)).sum := by
    unfold sumXY; congr 1; apply List.map_congr_left; intro t _; rw [Int.mul_assoc]
  rw [e2, e]
  exact sumN_congr fun i _ => sumN_congr fun j _ => (Int.mul_assoc _ _ _).symm
end DL
namespace DL
open PySem L2 PyProof.Rows
theorem nb6 {a b : Str} {p : Prop} (e : a = b) (h : (!decide (a = b)) = true) : p := by simp [e] at h
theorem few6 {l : List N2} (h : l.Pairwise pLt) (b : ∀ p ∈ l, p.1 + p.2 ≤ 16) : l.length ≤ 153 := by
  have nd : l.Nodup := List.Pairwise.imp (fun {a b} (z : pLt a b) (e : a = b) => by subst e; exact pLt_irr _ z) h
  have z := nd_le (m := allP.filter fun p => decide (p.1 + p.2 ≤ 16)) nd fun p hp => by
    have := b p hp
    exact List.mem_filter.mpr ⟨allP_mem.mpr ⟨by omega, by omega⟩, decide_eq_true this⟩
  have e : (allP.filter fun p => decide (p.1 + p.2 ≤ 16)).length = 153 := by decide +kernel
  rwa [e] at z
def ky6 (t : T3) : P2 := ((t.1 : Nat), (t.2.1 : Nat))
theorem lt_le {p q : N2} (h : pLt p q) : lexLe (upP p) (upP q) ∧ upP p ≠ upP q := by
  refine ⟨?_, fun e => pLt_irr q (upP_inj e ▸ h)⟩
  unfold pLt at h
  unfold lexLe upP
  show ((p.1 : Nat) : Int) < ((q.1 : Nat) : Int) ∨ ((p.1 : Nat) : Int) = ((q.1 : Nat) : Int) ∧ ((p.2 : Nat) : Int) ≤ ((q.2 : Nat) : Int)
  omega
theorem lex_anti {p q : P2} (h : lexLe p q) (k : lexLe q p) : p = q := by
  unfold lexLe at h k
  exact Prod.ext (by omega) (by omega)
theorem srt_same {ps : List P2} (h : ps.Pairwise lexLe) {qs : List P2} (pm : qs.Perm ps) (pw : qs.Pairwise lexLe) : qs = ps :=
  pm.eq_of_pairwise (fun a b _ _ => lex_anti) pw h
theorem asc_keys {ts : List T3} (h : (ts.map key2).Pairwise pLt) : (ts.map ky6).Pairwise lexLe ∧ (ts.map ky6).Nodup := by
  have e : ts.map ky6 = (ts.map key2).map upP := by rw [List.map_map]; rfl
  rw [e]
  exact ⟨List.pairwise_map.mpr (List.Pairwise.imp (fun {a b} z => (lt_le z).1) h), List.pairwise_map.mpr (List.Pairwise.imp (fun {a b} z => (lt_le z).2) h)⟩
theorem pr_shp (ps : List P2) : shp (.list (ps.map prI)) := (Shp.list (n := 1) fun x hx => by
  obtain ⟨p, _, rfl⟩ := List.mem_map.mp hx
  refine Shp.tup (n := 0) fun y hy => ?_
  simp only [List.mem_cons, List.not_mem_nil, or_false] at hy
  rcases hy with rfl | rfl <;> exact ⟨rfl, rfl, Nat.zero_le _⟩).shp
theorem pr_self : ∀ ps : List P2, PyData.eqv (.list (ps.map prI)) (.list (ps.map prI)) = true := by
  have key : ∀ ps : List P2, PyData.eqvAll (ps.map prI) (ps.map prI) = true := by
    intro ps
    induction ps with
    | nil => simp [PyData.eqvAll]
    | cons p ps ih => simp [PyData.eqvAll, PyData.eqv, prI, ih]
  intro ps
  simpa [PyData.eqv] using key ps
structure Good6 (ts : List T3) (k : Nat) : Prop where
  asc : (ts.map key2).Pairwise pLt
  lo : ∀ t ∈ ts, t.1 + t.2.1 ≤ 16
  nz : ∀ t ∈ ts, t.2.2 ≠ 0
  sm : ∀ t ∈ ts, t.2.2.natAbs < 2 ^ k
theorem Good6.len {ts : List T3} {k : Nat} (h : Good6 ts k) : ts.length ≤ 153 := by
  have z := few6 h.asc fun p hp => by
    obtain ⟨t, ht, rfl⟩ := List.mem_map.mp hp
    exact h.lo t ht
  rwa [List.length_map] at z
theorem fall6 {x : Int} {i : Nat} (hx : x.natAbs < 2 ^ 200) (hi : i ≤ 16) : (fallI x i).natAbs < 2 ^ 3217 := Nat.lt_of_lt_of_le (fallI_small (x := x) (m := 201) (n := i) (by omega)) (Nat.pow_le_pow_right (by decide) (by omega))
def S_byr6 : FSpec := ⟨fun args Q => ∃ (rs : List T3) (x y : Int), args = [.d (.tuple (rs.map rowP)), .d (.int x), .d (.int y)] ∧ Good6 rs 3200 ∧ x.natAbs < 2 ^ 200 ∧ y.natAbs < 2 ^ 200 ∧ Q (.d (.int (sumXY rs x y))) []⟩
abbrev N_law_by_rows_b9e4 : List Str := ["rows", "x", "y", "i", "j", "c"]
def ir_law_by_rows_b9e4 (S_law_falling_d92b : FSpec) : TSt :=
  (sRet (fD (dBi bSum (aCons (.e (dFz (fLc (iOwn 0) [3, 4, 5] (.tp [3, 4, 5]) cYes (dBin bMulI (.e (dBin bMulI (.s 5) (.e (dFz (fCall S_law_falling_d92b (aCons (.e (dVar 1)) (aCons (.e (dVar 3)) aNil))))))) (.e (dFz (fCall S_law_falling_d92b (aCons (.e (dVar 2)) (aCons (.e (dVar 4)) aNil))))))))) aNil))))
theorem sp_byr6 : ∀ args Q, S_byr6.sp args Q → ir_law_by_rows_b9e4 S_falling (endsOf args Q) (rho0 N_law_by_rows_b9e4 args) := by
  rintro args Q ⟨rs, x, y, rfl, hr, hx, hy, q⟩
  refine ⟨⟨rfl, rfl⟩, fun i acc ρ => acc = ((rs.take i).map fun t => PyData.int (t.2.2 * fallI x t.1 * fallI y t.2.1)) ∧ ρ = [some (.d (.tuple (rs.map rowP))), some (.d (.int x)), some (.d (.int y)), none, none, none], ⟨rfl, rfl⟩, fun _ _ _ _ => trivial, ?_, ?_⟩
  · rintro i z acc ρ hz ⟨rfl, rfl⟩
    have hz : (rs.map rowP)[i]? = some z := hz
    rw [List.getElem?_map] at hz
    obtain ⟨t, ht, rfl⟩ := Option.map_eq_some_iff.mp hz
    have tm := List.mem_of_getElem? ht
    have h1 := hr.lo t tm
    have h3 := hr.sm t tm
    have f1 := fall6 hx (show t.1 ≤ 16 by omega)
    have f2 := fall6 hy (show t.2.1 ≤ 16 by omega)
    refine ⟨rfl, fun _ => ⟨rfl, x, t.1, 201, rfl, by omega, by decide, by omega, by omega, mulOk 3200 3217 h3 f1 (by decide) (by decide) (by decide), rfl, y, t.2.1, 201, rfl, by omega, by decide, by omega, by omega, mulOk 6417 3217 (two_mul h3 f1 (by decide)) f2 (by decide) (by decide) (by decide), ?_, ?_, rfl⟩, nofun⟩
    · have := hr.len
      rw [List.length_map, List.length_take, sizeLine_eq]; omega
    · rw [List.take_add_one, ht, Option.toList_some, List.map_append]
      rfl
  · rintro acc ρ ⟨rfl, rfl⟩
    have el : (Wk.items (rs.map rowP)).list.length = rs.length := List.length_map _
    rw [el, List.take_length]
    exact ⟨rs.map fun t : T3 => t.2.2 * fallI x t.1 * fallI y t.2.1, by rw [List.map_map]; rfl, q⟩
theorem good6 {f : FT} (h : f.ok2) (h16 : f.lev ≤ 5 ∧ f.e ≤ 16) : Good6 (rD (fun u v => f.val u v) 17) 3200 := by
  have ok := h.ok (m := 140) (by decide) (by decide)
  have mul := Nat.mul_le_mul (show f.lev + 140 ≤ 145 by omega) h16.2
  refine ⟨?_, fun t ht => ?_, fun t ht => ?_, fun t ht => ?_⟩
  · rw [rD_all, List.map_map]
    have e : (key2 ∘ fun p : N2 => (p.1, p.2, cof (fun u v => f.val u v) p.1 p.2)) = id := rfl
    rw [e, List.map_id]
    exact allP_pw.filter _
  · obtain ⟨a, b, e, z⟩ := rD_mem ht
    refine Classical.byContradiction fun c => z (f.pol.zero ?_)
    have := h.2.2.2.1
    omega
  · obtain ⟨a, b, e, z⟩ := rD_mem ht
    rw [e]
    intro c
    exact z (by rw [← cof_mul f.pol, c, Int.zero_mul])
  · obtain ⟨a, b, e, _⟩ := rD_mem ht
    rw [e]
    exact Nat.lt_of_lt_of_le (cof_small f.pol (FT.dd_bnd ok (by decide) (by omega) (by omega))) (Nat.pow_le_pow_right (by decide) (by omega))
theorem tri6 {p : Nat × Nat} (h : p ∈ triP) : p.1 ≤ 16 ∧ p.2 ≤ 16 := by
  unfold triP at h
  obtain ⟨far, h1, h2⟩ := List.mem_flatMap.mp h
  obtain ⟨x, h3, rfl⟩ := List.mem_map.mp h2
  have := List.mem_range.mp h1
  have := List.mem_range.mp h3
  exact ⟨by show x ≤ 16; omega, by show far ≤ 16; omega⟩
end DL
namespace DL
open PySem L2 PyProof.Rows
theorem fac_dvdI : ∀ (k : Nat) (x : Int), fallI (k : Nat) k ∣ fallI x k
  | 0, x => ⟨1, rfl⟩
  | k + 1, x => by
    have stp1 : ∀ z : Int, fallI ((k + 1 : Nat) : Int) (k + 1) ∣ fallI (z + 1) (k + 1) ↔ fallI ((k + 1 : Nat) : Int) (k + 1) ∣ fallI z (k + 1) := fun z => by
      have d : fallI ((k + 1 : Nat) : Int) (k + 1) ∣ fallI (z + 1) (k + 1) - fallI z (k + 1) := by
        rw [fall_diff, fall_fact, show ((k + 1 : Nat) : Int) = (k : Int) + 1 by omega]
        exact Int.mul_dvd_mul_left _ (fac_dvdI k z)
      refine ⟨fun h => ?_, fun h => ?_⟩
      · have := Int.dvd_sub h d
        rw [show fallI (z + 1) (k + 1) - (fallI (z + 1) (k + 1) - fallI z (k + 1)) = fallI z (k + 1) by omega] at this
        exact this
      · have := Int.dvd_add d h
        rw [show fallI (z + 1) (k + 1) - fallI z (k + 1) + fallI z (k + 1) = fallI (z + 1) (k + 1) by omega] at this
        exact this
    have up : ∀ n : Nat, fallI ((k + 1 : Nat) : Int) (k + 1) ∣ fallI (n : Nat) (k + 1) := fun n => by
      induction n with
      | zero => rw [show ((0 : Nat) : Int) = 0 by rfl, fall_zero]; exact Int.dvd_zero _
      | succ n ih => rw [show ((n + 1 : Nat) : Int) = (n : Int) + 1 by omega]; exact (stp1 n).mpr ih
    have down : ∀ n : Nat, fallI ((k + 1 : Nat) : Int) (k + 1) ∣ fallI (-(n : Int)) (k + 1) := fun n => by
      induction n with
      | zero => rw [show -((0 : Nat) : Int) = 0 by rfl, fall_zero]; exact Int.dvd_zero _
      | succ n ih => exact (stp1 _).mp (by rw [show -((n + 1 : Nat) : Int) + 1 = -(n : Int) by omega]; exact ih)
    rcases Int.le_total 0 x with h | h
    · have := up x.toNat
      rw [Int.toNat_of_nonneg h] at this
      exact this
    · have := down (-x).toNat
      rw [show (-(((-x).toNat : Nat) : Int)) = x by omega] at this
      exact this
theorem stp_dvd (c i j : Nat) (x y : Int) : (c : Int) ∣ ((stp c i j : Nat) : Int) * (fallI x i * fallI y j) := by
  obtain ⟨p, hp⟩ := fac_dvdI i x
  obtain ⟨q, hq⟩ := fac_dvdI j y
  obtain ⟨F, hF⟩ : ∃ F : Nat, fac2 i j = F := ⟨(fac2 i j).toNat, (Int.toNat_of_nonneg (Int.le_of_lt (fac2_pos i j))).symm⟩
  have e : fallI x i * fallI y j = (F : Int) * (p * q) := by
    rw [hp, hq, ← hF]
    unfold fac2
    grind
  have d : c ∣ stp c i j * F := by
    unfold stp
    rw [hF, Int.toNat_natCast]
    obtain ⟨u, hu⟩ := Nat.gcd_dvd_left c F
    obtain ⟨v, hv⟩ := Nat.gcd_dvd_right c F
    obtain ⟨g, hg⟩ : ∃ g, g = Nat.gcd c F := ⟨_, rfl⟩
    rw [← hg] at hu hv ⊢
    rcases Nat.eq_zero_or_pos g with g0 | g0
    · subst g0
      rw [Nat.div_zero, Nat.zero_mul]
      exact ⟨0, rfl⟩
    · refine ⟨v, ?_⟩
      rw [hu, Nat.mul_div_cancel_left _ g0, hv]
      rw [← Nat.mul_assoc, Nat.mul_comm u g]
  rw [e, ← Int.mul_assoc]
  refine Int.dvd_mul_of_dvd_left ?_
  have := Int.natCast_dvd_natCast.mpr d
  rw [Int.natCast_mul] at this
  exact this
theorem sumXY_plain {c : Nat} (x y : Int) : ∀ rs : List T3, sumXY (plainR c rs) x y % (c : Int) = sumXY rs x y % (c : Int)
  | [] => rfl
  | t :: r => by
    have ih := sumXY_plain (c := c) x y r
    have e1 : sumXY (t :: r) x y = t.2.2 * fallI x t.1 * fallI y t.2.1 + sumXY r x y := rfl
    have hd : (t.2.2 % ((stp c t.1 t.2.1 : Nat) : Int) * fallI x t.1 * fallI y t.2.1) % (c : Int) = (t.2.2 * fallI x t.1 * fallI y t.2.1) % (c : Int) := by
      rw [Int.emod_eq_emod_iff_emod_sub_eq_zero, ← Int.dvd_iff_emod_eq_zero]
      have e : t.2.2 % ((stp c t.1 t.2.1 : Nat) : Int) * fallI x t.1 * fallI y t.2.1 - t.2.2 * fallI x t.1 * fallI y t.2.1 = (((stp c t.1 t.2.1 : Nat) : Int) * (fallI x t.1 * fallI y t.2.1)) * (-(t.2.2 / ((stp c t.1 t.2.1 : Nat) : Int))) := by
        have dm := Int.emod_add_mul_ediv t.2.2 ((stp c t.1 t.2.1 : Nat) : Int)
        grind
      rw [e]
      exact Int.dvd_mul_of_dvd_left (stp_dvd c t.1 t.2.1 x y)
    rw [e1, Int.add_emod, ← hd, ← ih, ← Int.add_emod]
    congr 1
    have e2 : plainR c (t :: r) = (if (rstR c t).2.2 = 0 then [] else [rstR c t]) ++ plainR c r := by
      unfold plainR
      rw [List.map_cons]
      by_cases h : (rstR c t).2.2 = 0
      · rw [List.filter_cons_of_neg (p := fun t : T3 => !decide (t.2.2 = 0)) (by simp [h]), if_pos h]; rfl
      · rw [List.filter_cons_of_pos (p := fun t : T3 => !decide (t.2.2 = 0)) (by simp [h]), if_neg h]; rfl
    rw [e2]
    split
    · rename_i h
      have h : t.2.2 % ((stp c t.1 t.2.1 : Nat) : Int) = 0 := h
      rw [h, Int.zero_mul, Int.zero_mul, Int.zero_add]
      rfl
    · rfl
theorem rest_small {i : Int} {c : Nat} (h0 : 0 < c) (h : c ≤ 2 ^ 100) : (i % (c : Int)).natAbs < 2 ^ 100 := by
  have h1 := Int.emod_lt_of_pos i (b := (c : Int)) (by omega)
  have h2 := Int.emod_nonneg i (b := (c : Int)) (by omega)
  omega
theorem Good6.up {ts : List T3} {k m : Nat} (h : Good6 ts k) (hm : k ≤ m) : Good6 ts m := ⟨h.asc, h.lo, h.nz, fun t ht => Nat.lt_of_lt_of_le (h.sm t ht) (Nat.pow_le_pow_right (by decide) hm)⟩
theorem plain_good {ts : List T3} {k c : Nat} (h : Good6 ts k) (c0 : 0 < c) (c1 : c < 2 ^ 110) : Good6 (plainR c ts) 3200 ∧ ∀ t ∈ plainR c ts, 0 < t.2.2 ∧ t.2.2 < ((stp c t.1 t.2.1 : Nat) : Int) := by
  refine ⟨⟨?_, fun t ht => ?_, fun t ht => ?_, fun t ht => ?_⟩, fun t ht => (plainR_mem c0 ht).2⟩
  · unfold plainR
    refine List.Pairwise.sublist (List.Sublist.map _ List.filter_sublist) ?_
    rw [List.map_map]
    exact h.asc
  · obtain ⟨⟨s, hs, e1, e2⟩, _⟩ := plainR_mem c0 ht
    have := h.lo s hs
    omega
  · obtain ⟨_, a, _⟩ := plainR_mem c0 ht
    omega
  · obtain ⟨_, a, b⟩ := plainR_mem c0 ht
    have := stp_le c t.1 t.2.1
    exact Nat.lt_of_lt_of_le (show t.2.2.natAbs < 2 ^ 110 by omega) (Nat.pow_le_pow_right (by decide) (by decide))
def S_areP : FSpec := ⟨fun args Q => ∃ (ts : List T3) (c : Nat), args = [.d (.tuple (ts.map rowP)), .d (.int c)] ∧ Good6 ts 3200 ∧ (∀ t ∈ ts, 0 < t.2.2 ∧ t.2.2 < ((stp c t.1 t.2.1 : Nat) : Int)) ∧ 0 < c ∧ c < 2 ^ 110 ∧ Q (.d (.bool true)) []⟩
abbrev N_law_are_plain_606f : List Str := ["rows", "clock", "row", "pairs", "one"]
def ir_law_are_plain_606f (S_law_step_b26f : FSpec) : TSt :=
  (sSeq (sIf (tNotD (tVal (dIsi "tuple" (.s 0)))) (sRet (fD (dC (.bool false)))) sNext)
    (sSeq (sFor (iSeq (dVar 0)) (.nm 2) (sSeq (sIf (tOrD (tNotD (tVal (dIsi "tuple" (.s 2)))) (tVal (dBin cNe (.e (dBi bLen (aCons (.s 2) aNil))) (.e (dC (.int 3)))))) (sRet (fD (dC (.bool false)))) sNext)
    (sSeq (sIf (tVal (dBin cNe (.e (dFz (fLc (iOwn 2) [4] (.nm 4) (tOrD (tNotD (tVal (dIsi "int" (.s 4)))) (tVal (dIsi "bool" (.s 4)))) (dC (.int 1))))) (.e (dFz (fLst aNil))))) (sRet (fD (dC (.bool false)))) sNext)
    (sIf (tOrD (tVal (dBin cLt (.e (dBin bIx (.s 2) (.e (dC (.int 0))))) (.e (dC (.int 0))))) (tOrD (tVal (dBin cLt (.e (dBin bIx (.s 2) (.e (dC (.int 1))))) (.e (dC (.int 0))))) (tOrD (tVal (dBin cGt (.e (dBin bAdd (.e (dBin bIx (.s 2) (.e (dC (.int 0))))) (.e (dBin bIx (.s 2) (.e (dC (.int 1))))))) (.e (dC (.int 16))))) (tNotD (tVal (dChain (fun i j => decide (i ≤ j)) (fun i j => decide (i < j)) (.e (dC (.int 1))) (.e (dBin bIx (.s 2) (.e (dC (.int 2))))) (.e (dFz (fCall S_law_step_b26f (aCons (.e (dVar 1)) (aCons (.e (dBin bIx (.s 2) (.e (dC (.int 0))))) (aCons (.e (dBin bIx (.s 2) (.e (dC (.int 1))))) aNil)))))))))))) (sRet (fD (dC (.bool false)))) sNext))))
    (sSeq (sAsg 3 (fLc (iOwn 0) [2] (.nm 2) cYes (dSl (.s 2) pNone (pSome (.e (dC (.int 2)))))))
    (sRet (fD (dAnd (dBin cEq (.s 3) (.e (dBi bSortQ (aCons (.s 3) aNil)))) (dBin cEq (.e (dBi bLenSetP (aCons (.s 3) aNil))) (.e (dBi bLen (aCons (.s 3) aNil))))))))))
set_option maxHeartbeats 4000000 in
theorem sp_areP : ∀ args Q, S_areP.sp args Q → ir_law_are_plain_606f S_step (endsOf args Q) (rho0 N_law_are_plain_606f args) := by
  rintro args Q ⟨ts, c, rfl, hG, hB, c0, c1, q⟩
  refine ⟨rfl, nofun, fun _ => ?_⟩
  refine ⟨_, rfl, fun i ρ => ∃ s2 : Option PD, ρ = [some (.d (.tuple (ts.map rowP))), some (.d (.int c)), s2.map Lc.d, none, none], ⟨none, rfl⟩, ?_, ?_⟩
  · rintro i z ρ hz ⟨s2, rfl⟩
    have hz : (ts.map rowP)[i]? = some z := hz
    rw [List.getElem?_map] at hz
    obtain ⟨t, ht, rfl⟩ := Option.map_eq_some_iff.mp hz
    have tm := List.mem_of_getElem? ht
    have h1 := hG.lo t tm
    obtain ⟨h2, h3⟩ := hB t tm
    refine ⟨rfl, nofun, fun _ => ⟨nofun, fun _ => ?_⟩⟩
    refine ⟨⟨rfl, rfl⟩, fun j acc ρ => acc = [] ∧ ρ = [some (.d (.tuple (ts.map rowP))), some (.d (.int c)), some (.d (rowP t)), none, none], ⟨rfl, rfl⟩, fun _ _ _ _ => trivial, ?_, ?_⟩
    · rintro j y acc ρ hy ⟨rfl, rfl⟩
      have hy : ([PyData.int (t.1 : Nat), .int (t.2.1 : Nat), .int t.2.2] : List PD)[j]? = some y := hy
      match j, hy with
      | 0, hy => cases hy; exact ⟨rfl, nofun, fun _ => ⟨rfl, nofun, fun _ => ⟨rfl, rfl⟩⟩⟩
      | 1, hy => cases hy; exact ⟨rfl, nofun, fun _ => ⟨rfl, nofun, fun _ => ⟨rfl, rfl⟩⟩⟩
      | 2, hy => cases hy; exact ⟨rfl, nofun, fun _ => ⟨rfl, nofun, fun _ => ⟨rfl, rfl⟩⟩⟩
      | k + 3, hy => cases hy
    · rintro acc ρ ⟨rfl, rfl⟩
      refine ⟨⟨rfl, rfl⟩, ⟨rfl, rfl⟩, nofun, fun _ => ?_⟩
      refine ⟨.int (t.1 : Nat), rfl, fun h => absurd (show ((t.1 : Nat) : Int) < 0 from of_decide_eq_true h) (by omega), fun _ => ?_⟩
      refine ⟨.int (t.2.1 : Nat), rfl, fun h => absurd (show ((t.2.1 : Nat) : Int) < 0 from of_decide_eq_true h) (by omega), fun _ => ⟨.int (t.1 : Nat), rfl, .int (t.2.1 : Nat), rfl, fun h => absurd (show ((t.1 : Nat) : Int) + ((t.2.1 : Nat) : Int) > 16 from of_decide_eq_true h) (by omega), fun _ => ?_⟩⟩
      refine ⟨.int t.2.2, rfl, fun _ => ?_, fun h => ?_⟩
      · refine ⟨.int (t.1 : Nat), rfl, .int (t.2.1 : Nat), rfl, rfl, c, t.1, t.2.1, rfl, c0, c1, by omega, by omega, fun h => ?_, fun _ => ⟨some (rowP t), rfl⟩⟩
        have h : (!decide (t.2.2 < ((stp c t.1 t.2.1 : Nat) : Int))) = true := h
        rw [decide_eq_true h3] at h
        exact absurd h (by decide)
      · have h : ¬ (1 : Int) ≤ t.2.2 := of_decide_eq_false h
        omega
  · rintro ρ ⟨s2, rfl⟩
    have lf : lcFree [some (.d (.tuple (ts.map rowP))), some (.d (.int c)), s2.map Lc.d, none, none] [2] = true := by cases s2 <;> rfl
    refine ⟨⟨lf, rfl⟩, fun j acc ρ => acc = ((ts.take j).map fun t => prI (ky6 t)) ∧ ρ = [some (.d (.tuple (ts.map rowP))), some (.d (.int c)), none, none, none], ⟨rfl, rfl⟩, fun _ _ _ _ => trivial, ?_, ?_⟩
    · rintro j y acc ρ hy ⟨rfl, rfl⟩
      have hy : (ts.map rowP)[j]? = some y := hy
      rw [List.getElem?_map] at hy
      obtain ⟨t, ht, rfl⟩ := Option.map_eq_some_iff.mp hy
      refine ⟨fun _ => ⟨?_, ?_, rfl⟩, nofun⟩
      · have := hG.len
        rw [List.length_map, List.length_take, sizeLine_eq]; omega
      · rw [List.take_add_one, ht, Option.toList_some, List.map_append]; rfl
    · rintro acc ρ ⟨rfl, rfl⟩
      have el : (Wk.items (ts.map rowP)).list.length = ts.length := List.length_map _
      rw [el, List.take_length]
      have hl := hG.len
      obtain ⟨a1, a2⟩ := asc_keys hG.asc
      obtain ⟨ps, hp⟩ : ∃ ps, ps = ts.map ky6 := ⟨_, rfl⟩
      have e : (ts.map fun t => prI (ky6 t)) = ps.map prI := by rw [hp, List.map_map]; rfl
      have pl : ps.length ≤ 200 := by rw [hp, List.length_map]; omega
      rw [← hp] at a1 a2
      rw [e]
      refine ⟨ps, rfl, fun qs pm pw => ?_⟩
      rw [srt_same a1 pm pw]
      refine ⟨pr_shp ps, pr_shp ps, ?_⟩
      have self : PyData.eqv (.list (ps.map prI)) (.list (ps.map prI)) = true := pr_self ps
      rw [self]
      refine ⟨fun _ => ⟨ps, rfl, pl, a2, ?_⟩, nofun⟩
      have e2 : decide (((ps.length : Nat) : Int) = (((ps.map prI).length : Nat) : Int)) = true := decide_eq_true (by rw [List.length_map])
      have q' : Q (.d (.bool (decide (((ps.length : Nat) : Int) = (((ps.map prI).length : Nat) : Int))))) [] := by rw [e2]; exact q
      exact q'
def S_rowhour7 : FSpec := ⟨fun args Q => ∃ (rs : List T3) (c : Nat) (x y : Int), args = [.d (.tuple (rs.map rowP)), .d (.int c), .d (.int x), .d (.int y)] ∧ Good6 rs 3200 ∧ 0 < c ∧ x.natAbs < 2 ^ 200 ∧ y.natAbs < 2 ^ 200 ∧ Q (.d (.int (sumXY rs x y % c))) []⟩
abbrev N_row_hour : List Str := ["rows", "clock", "x", "y", "i", "j", "c"]
def ir_row_hour (S_neighbours : FSpec) : TSt :=
  (sRet (fD (dBin bMod (.e (dBi bSum (aCons (.e (dFz (fLc (iOwn 0) [4, 5, 6] (.tp [4, 5, 6]) cYes (dBin bMulI (.e (dBin bMulI (.s 6) (.e (dFz (fCall S_neighbours (aCons (.e (dVar 2)) (aCons (.e (dVar 4)) aNil))))))) (.e (dFz (fCall S_neighbours (aCons (.e (dVar 3)) (aCons (.e (dVar 5)) aNil))))))))) aNil))) (.s 1))))
theorem sp_rowhour7 : ∀ args Q, S_rowhour7.sp args Q → ir_row_hour S_falling (endsOf args Q) (rho0 N_row_hour args) := by
  rintro args Q ⟨rs, c, x, y, rfl, hr, c0, hx, hy, q⟩
  refine ⟨⟨rfl, rfl⟩, fun i acc ρ => acc = ((rs.take i).map fun t => PyData.int (t.2.2 * fallI x t.1 * fallI y t.2.1)) ∧ ρ = [some (.d (.tuple (rs.map rowP))), some (.d (.int c)), some (.d (.int x)), some (.d (.int y)), none, none, none], ⟨rfl, rfl⟩, fun _ _ _ _ => trivial, ?_, ?_⟩
  · rintro i z acc ρ hz ⟨rfl, rfl⟩
    have hz : (rs.map rowP)[i]? = some z := hz
    rw [List.getElem?_map] at hz
    obtain ⟨t, ht, rfl⟩ := Option.map_eq_some_iff.mp hz
    have tm := List.mem_of_getElem? ht
    have h1 := hr.lo t tm
    have h3 := hr.sm t tm
    have f1 := fall6 hx (show t.1 ≤ 16 by omega)
    have f2 := fall6 hy (show t.2.1 ≤ 16 by omega)
    refine ⟨rfl, fun _ => ⟨rfl, x, t.1, 201, rfl, by omega, by decide, by omega, by omega, mulOk 3200 3217 h3 f1 (by decide) (by decide) (by decide), rfl, y, t.2.1, 201, rfl, by omega, by decide, by omega, by omega, mulOk 6417 3217 (two_mul h3 f1 (by decide)) f2 (by decide) (by decide) (by decide), ?_, ?_, rfl⟩, nofun⟩
    · have := hr.len
      rw [List.length_map, List.length_take, sizeLine_eq]; omega
    · rw [List.take_add_one, ht, Option.toList_some, List.map_append]
      rfl
  · rintro acc ρ ⟨rfl, rfl⟩
    have el : (Wk.items (rs.map rowP)).list.length = rs.length := List.length_map _
    rw [el, List.take_length]
    exact ⟨rs.map fun t : T3 => t.2.2 * fallI x t.1 * fallI y t.2.1, by rw [List.map_map]; rfl, by omega, q⟩
abbrev N_law : List Str := ["script", "deck", "turn", "formula", "clock", "rows", "x", "y"]
def ir_law (S_law_deck_91e6 : FSpec) (S_law_formula_6b2b : FSpec) (S_law_draw_a51a : FSpec) (S_law_one_90da : FSpec) (S_law_clock_4333 : FSpec) (S_plain : FSpec) (S_made_plain : FSpec) (S_rows_of : FSpec) (S_law_are_plain_606f : FSpec) (S_law_triangle_2d73 : FSpec) (S_law_by_rows_b9e4 : FSpec) (S_law_worth_98b9 : FSpec) (S_law_far_43d2 : FSpec) (S_row_hour : FSpec) : TSt :=
  (sSeq (sAsg 1 (fCall S_law_deck_91e6 (aCons (.s 0) aNil)))
    (sSeq (sFor (iRg (aCons (.e (dC (.int 4))) aNil)) (.nm 2) (sSeq (sAsg 3 (fCall S_law_formula_6b2b (aCons (.s 1) (aCons (.e (dFz (fCall S_law_one_90da (aCons (.s 1) (aCons (.e (dFz (fLst (aCons (.e (dFz (fLst (aCons (.e (dC (.str "x"))) aNil)))) (aCons (.e (dFz (fLst (aCons (.e (dC (.str "x"))) (aCons (.e (dC (.str "y"))) aNil))))) aNil))))) aNil))))) (aCons (.e (dC (.int 16))) (aCons (.e (dBin bAdd (.e (dC (.int 1))) (.e (dFz (fCall S_law_draw_a51a (aCons (.s 1) (aCons (.e (dC (.int 5))) aNil))))))) aNil))))))
    (sSeq (sAsg 4 (fCall S_law_clock_4333 (aCons (.s 1) aNil)))
    (sSeq (sAsg 5 (fCall S_plain (aCons (.e (dVar 3)) (aCons (.e (dVar 4)) aNil))))
    (sSeq (sIf (tVal (dBin cNe (.e (dBi bRepr (aCons (.e (dFz (fCall S_made_plain (aCons (.e (dFz (fCall S_rows_of (aCons (.e (dVar 3)) aNil)))) (aCons (.e (dVar 4)) aNil))))) aNil))) (.e (dBi bRepr (aCons (.s 5) aNil))))) (sRet (fD (dC (.bool false)))) sNext)
    (sSeq (sIf (tOrD (tNotD (tVal (dFz (fCall S_law_are_plain_606f (aCons (.e (dVar 5)) (aCons (.e (dVar 4)) aNil)))))) (tVal (dBin cNe (.e (dBi bRepr (aCons (.e (dFz (fCall S_plain (aCons (.e (dVar 3)) (aCons (.e (dVar 4)) aNil))))) aNil))) (.e (dBi bRepr (aCons (.s 5) aNil)))))) (sRet (fD (dC (.bool false)))) sNext)
    (sSeq (sFor (iSeq (dFz (fCall S_law_triangle_2d73 aNil))) (.tp [6, 7]) (sIf (tVal (dBin cNe (.e (dBin bMod (.e (dFz (fCall S_law_by_rows_b9e4 (aCons (.e (dVar 5)) (aCons (.e (dVar 6)) (aCons (.e (dVar 7)) aNil)))))) (.s 4))) (.e (dBin bMod (.e (dFz (fCall S_law_worth_98b9 (aCons (.e (dVar 3)) (aCons (.e (dVar 6)) (aCons (.e (dVar 7)) aNil)))))) (.s 4))))) (sRet (fD (dC (.bool false)))) sNext))
    (sSeq (sPar 6 7 (fCall S_law_far_43d2 (aCons (.s 1) aNil)) (fCall S_law_far_43d2 (aCons (.s 1) aNil)))
    (sIf (tVal (dBin cNe (.e (dBi bRepr (aCons (.e (dFz (fCall S_row_hour (aCons (.e (dVar 5)) (aCons (.e (dVar 4)) (aCons (.e (dVar 6)) (aCons (.e (dVar 7)) aNil))))))) aNil))) (.e (dBi bRepr (aCons (.e (dBin bMod (.e (dFz (fCall S_law_worth_98b9 (aCons (.e (dVar 3)) (aCons (.e (dVar 6)) (aCons (.e (dVar 7)) aNil)))))) (.s 4))) aNil))))) (sRet (fD (dC (.bool false)))) sNext)))))))))
    (sRet (fD (dC (.bool true))))))
set_option maxHeartbeats 4000000 in
theorem sp_law : ∀ args Q, lawS.sp args Q → ir_law S_deck (S_formula 5) S_draw S_one S_clock (S_plain 17) S_made (S_rows 17) S_areP S_triangle S_byr6 (S_worth 17) S_far S_rowhour7 (endsOf args Q) (rho0 N_law args) := by
  rintro args Q ⟨ns, rfl, hl, q⟩
  refine ⟨rfl, ns, rfl, hl, fun dk hdk => ?_⟩
  refine ⟨by decide, _, rfl, fun i ρ => ∃ (dk : List PD) (s2 s3 s4 s5 s6 s7 : Option Lc), ρ = [some (.sc (ns.map .int)), some (.ls none dk), s2, s3, s4, s5, s6, s7] ∧ Dk ((4 - i) * 400) dk, ⟨dk, none, none, none, none, none, none, rfl, hdk.mono (by decide)⟩, ?_, ?_⟩
  · rintro i x ρ hx ⟨dk, s2, s3, s4, s5, s6, s7, rfl, hd⟩
    obtain ⟨rfl, hi⟩ := rngD_get hx
    have hi : i < 4 := hi
    have eb : (4 - i) * 400 = (4 - (i + 1)) * 400 + 400 := by omega
    rw [eb] at hd
    obtain ⟨B, hB⟩ : ∃ B, B = (4 - (i + 1)) * 400 := ⟨_, rfl⟩
    rw [← hB] at hd
    refine ⟨rfl, B + 399, dk, _, rfl, hd, ⟨Nat.succ_pos _, by show 2 < 2 ^ 60; decide⟩, fun z dk1 hz d1 => ?_⟩
    have hz' : ∃ (ls : List PD) (yy : Bool), z = .list ls ∧ Lets yy ls := by
      simp only [List.mem_cons, List.not_mem_nil, or_false] at hz
      rcases hz with rfl | rfl
      · exact ⟨_, false, rfl, ⟨Nat.succ_pos _, by show 1 < 100; decide, fun l hl => by simp at hl; exact .inl hl⟩⟩
      · exact ⟨_, true, rfl, lets_xy⟩
    obtain ⟨ls, yy, rfl, hls⟩ := hz'
    refine ⟨rfl, B + 398, dk1, 5, rfl, d1, ⟨by decide, by decide⟩, fun r dk2 f0 f1 d2 => ?_⟩
    obtain ⟨n, rfl⟩ : ∃ n : Nat, r = n := ⟨r.toNat, by omega⟩
    have e2 : (1 : Int) + (n : Int) = ((1 + n : Nat) : Int) := by omega
    refine ⟨rfl, B + 30, dk2, ls, yy, 16, 1 + n, by rw [← e2]; rfl, d2.mono (by show B + 30 + 349 ≤ _; omega), hls, by decide, by decide, by omega, by omega, fun f dk3 hf d3 => ?_⟩
    have f2 := hf.ok2 (by decide) (by omega)
    have le := hf.1
    have ee := hf.2.1
    have G := good6 f2 ⟨by omega, ee⟩
    have ok := f2.ok (m := 140) (by decide) (by decide)
    have ok2 := f2.ok (m := 200) (by decide) (by decide)
    refine ⟨rfl, B + 20, dk3, rfl, d3.mono (by omega), fun c dk4 c0 c1 d4 => ?_⟩
    have cl : c < 2 ^ 110 := by omega
    have cI : (0 : Int) < (c : Int) := by omega
    obtain ⟨P1, P2⟩ := plain_good G c0 cl
    have len := rD_len (fun u v => f.val u v) 17
    have bnd : ∀ t ∈ rD (fun u v => f.val u v) 17, t.1 ≤ 100 ∧ t.2.1 ≤ 100 := fun t ht => by
      have := rD_bnd (Nat.le_refl 17) t ht
      omega
    have shP := plainR_shw c0 cl (show (rD (fun u v => f.val u v) 17).length ≤ 1000 by omega) bnd
    have tell : ∀ x y : Int, sumXY (plainR c (rD (fun u v => f.val u v) 17)) x y % (c : Int) = f.val x y % (c : Int) := fun x y => by
      rw [sumXY_plain, rD_tells f.pol f2.2.2.2.1 x y]
    refine ⟨rfl, f, c, 140, rfl, f2.1, ok, by decide, c0, cl, ?_⟩
    refine ⟨rfl, f, 140, rfl, f2.1, ok, by decide, rfl, _, c, rfl, c0, cl, by omega, bnd, shP.ok, shP.ok, fun h => nb6 rfl h, fun _ => ?_⟩
    refine ⟨rfl, _, c, rfl, P1, P2, c0, cl, nofun, fun _ => ⟨rfl, f, c, 140, rfl, f2.1, ok, by decide, c0, cl, shP.ok, shP.ok, fun h => nb6 rfl h, fun _ => ?_⟩⟩
    refine ⟨rfl, rfl, _, rfl, fun n ρ => ∃ s6 s7 : Option Lc, ρ = [some (.sc (ns.map .int)), some (.ls none dk4), some (.d (.int (0 + (i : Nat)))), some (.d f.pd), some (.d (.int c)), some (.d (.tuple ((plainR c (rD (fun u v => f.val u v) 17)).map rowP))), s6, s7], ⟨s6, s7, rfl⟩, ?_, ?_⟩
    · rintro n z ρ hz ⟨s6, s7, rfl⟩
      have hz : z ∈ triP.map prD2 := List.mem_of_getElem? hz
      obtain ⟨p, hp, rfl⟩ := List.mem_map.mp hz
      have ps := tri6 hp
      have big : 16 < 2 ^ 200 := by decide
      have w1 : ((p.1 : Nat) : Int).natAbs < 2 ^ 200 := Nat.lt_of_le_of_lt (show _ ≤ 16 by omega) big
      have w2 : (((p.2 : Nat) : Int) - ((p.1 : Nat) : Int)).natAbs < 2 ^ 200 := Nat.lt_of_le_of_lt (show _ ≤ 16 by omega) big
      refine ⟨rfl, rfl, _, _, _, rfl, P1, w1, w2, cI, rfl, f, _, _, 200, rfl, f2.1, ok2, w1, w2, cI, fun h => ?_, fun _ => ⟨_, _, rfl⟩⟩
      have h : (!decide (sumXY (plainR c (rD (fun u v => f.val u v) 17)) (p.1 : Nat) ((p.2 : Nat) - (p.1 : Nat)) % (c : Int) = f.val (p.1 : Nat) ((p.2 : Nat) - (p.1 : Nat)) % (c : Int))) = true := h
      rw [tell] at h
      simp at h
    · rintro ρ ⟨s6, s7, rfl⟩
      refine ⟨rfl, B + 10, dk4, rfl, d4.mono (by omega), fun x dk5 hx d5 => ⟨rfl, B, dk5, rfl, d5.mono (by omega), fun y dk6 hy d6 => ?_⟩⟩
      have sh := fun i : Int => (show Shw 0 103 (.int (i % (c : Int))) from (Shw.int (n := 0) (rest_small (i := i) c0 c1)).mono (Nat.le_refl _) (by decide)).ok
      refine ⟨rfl, _, c, x, y, rfl, P1, c0, hx, hy, sh _, rfl, f, x, y, 200, rfl, f2.1, ok2, hx, hy, cI, sh _, fun h => nb6 (congrArg (fun i : Int => PyData.shown (.int i)) (tell x y)) h, fun _ => ?_⟩
      exact ⟨dk6, _, _, _, _, _, _, rfl, by rw [← hB]; exact d6⟩
  · rintro ρ ⟨dk, s2, s3, s4, s5, s6, s7, rfl, hd⟩
    exact q
end DL
namespace DL
open PySem L2 PyProof.Rows
def top (i : Nat) : Stmt := PySem.Challenge.pw_hourforms_k07_plain_rows.main.body.getD i (.Pass ⟨0, 0, 0, 0⟩)
abbrev st_law_deck_91e6 : Stmt := top 16
theorem sc_law_deck_91e6 : FnScope N_law_deck_91e6 ["script"] (defScope st_law_deck_91e6) := ⟨rfl, rfl, rfl, by decide +kernel, rfl, by decide +kernel, by decide +kernel⟩
theorem cal_law_deck_91e6 {P : Program} {w : World} {K : PySem.W.Frag} {mg : Str → Option Value} {base : Heap} {k : Nat} (hnd : base.NoDigits) (D : Dn K mg "_law_deck" st_law_deck_91e6 ["script"]) (b_list : mg "list" = none) {S : FSpec}
    (len : ∀ args Q, S.sp args Q → args.length = 1) (hsp : ∀ args Q, S.sp args Q → ir_law_deck_91e6 (endsOf args Q) (rho0 N_law_deck_91e6 args)) : Cal P w K mg base (k + 1) "_law_deck" ["script"] S := by
  have sc := sc_law_deck_91e6
  exact def_cal D sc len (fun f cdv A outer s H E hr hgd =>
    (LSs.one (LS.ret (LF.lst (LA.cons (LO.ofD (LD.ofF (LF.list rfl b_list (LA.cons (LO.ofD (LD.slS 0 (pv 0) LP.none (LP.some (LO.ofD LD.int)))) LA.nil)))) (LA.cons (LO.ofD LD.int) (LA.cons (LO.ofD LD.int) (LA.cons (LO.ofD LD.int) LA.nil)))))))) hsp
abbrev st_law_draw_a51a : Stmt := top 17
theorem sc_law_draw_a51a : FnScope N_law_draw_a51a ["deck", "many"] (defScope st_law_draw_a51a) := ⟨rfl, rfl, rfl, by decide +kernel, rfl, by decide +kernel, by decide +kernel⟩
theorem cal_law_draw_a51a {P : Program} {w : World} {K : PySem.W.Frag} {mg : Str → Option Value} {base : Heap} {k : Nat} (hnd : base.NoDigits) (D : Dn K mg "_law_draw" st_law_draw_a51a ["deck", "many"]) (b_int : mg "int" = none) (b_len : mg "len" = none) (b_abs : mg "abs" = none) {S : FSpec}
    (len : ∀ args Q, S.sp args Q → args.length = 2) (hsp : ∀ args Q, S.sp args Q → ir_law_draw_a51a (endsOf args Q) (rho0 N_law_draw_a51a args)) : Cal P w K mg base (k + 1) "_law_draw" ["deck", "many"] S := by
  have sc := sc_law_draw_a51a
  exact def_cal D sc len (fun f cdv A outer s H E hr hgd =>
    (LSs.cons (LS.setL (LD.bin op_addD ok_add (LO.ofD (LD.ix (LO.s 0 (pv 0)) (LO.ofD LD.int) (fun _ _ => rfl))) (LO.ofD LD.int)) (pg_sub (pv 0) (pO (LO.ofD LD.int)) set_list))
    (LSs.cons (LS.ite (LT.cmp op_gt (ok_cI _) (LO.ofD (LD.ix (LO.s 0 (pv 0)) (LO.ofD LD.int) (fun _ _ => rfl))) (LO.ofD LD.int) (nomark _)) (LSs.cons (LS.asg (i := 2) sc.nd rfl (by first | exact .inl rfl | exact .inr rfl) (LF.ofD (LD.bin op_mod ok_mod (LO.ofD (LD.bt call_int1 ok_int rfl b_int (by decide +kernel) (LA.cons (LO.ofD (LD.ix (LO.s 0 (pv 0)) (LO.ofD LD.int) (fun _ _ => rfl))) LA.nil))) (LO.s 1 (pv 1)))))
    (LSs.cons (LS.setL (LD.bin op_fdivW ok_fdiv (LO.ofD (LD.ix (LO.s 0 (pv 0)) (LO.ofD LD.int) (fun _ _ => rfl))) (LO.s 1 (pv 1))) (pg_sub (pv 0) (pO (LO.ofD LD.int)) set_list))
    (LSs.one (LS.retV 2 (pv 2))))) LSs.nil)
    (LSs.cons (LS.asg (i := 3) sc.nd rfl (by first | exact .inl rfl | exact .inr rfl) (LF.ofD LD.int))
    (LSs.cons (LS.ite (LT.cmp (op_neU hr.units) ok_ne (LO.ofD (LD.ix (LO.s 0 (pv 0)) (LO.ofD LD.int) (fun _ _ => rfl))) (LO.ofD (LD.ofF (LF.lst LA.nil))) (nomark _)) (LSs.one (LS.asg (i := 3) sc.nd rfl (by first | exact .inl rfl | exact .inr rfl) (LF.ofD (LD.ix (LO.ofD (LD.ix (LO.s 0 (pv 0)) (LO.ofD LD.int) (fun _ _ => rfl))) (LO.ofD (LD.bin op_mod ok_mod (LO.ofD (LD.bt call_int1 ok_int rfl b_int (by decide +kernel) (LA.cons (LO.ofD (LD.ix (LO.s 0 (pv 0)) (LO.ofD LD.int) (fun _ _ => rfl))) LA.nil))) (LO.ofD (LD.bi call_lenU ok_len rfl b_len (by decide +kernel) (LA.cons (LO.ofD (LD.ix (LO.s 0 (pv 0)) (LO.ofD LD.int) (fun _ _ => rfl))) LA.nil))))) (fun _ _ => rfl))))) LSs.nil)
    (LSs.cons (LS.setL (LD.bin op_addD ok_add (LO.ofD (LD.ix (LO.s 0 (pv 0)) (LO.ofD LD.int) (fun _ _ => rfl))) (LO.ofD LD.int)) (pg_sub (pv 0) (pO (LO.ofD LD.int)) set_list))
    (LSs.cons (LS.ite (LT.w (LW.and (LT.cmp op_ge (ok_cI _) (LO.ofD (LD.bi call_abs ok_abs rfl b_abs (by decide +kernel) (LA.cons (LO.s 3 (pv 3)) LA.nil))) (LO.ofD (LD.bin op_powW ok_pow (LO.ofD LD.int) (LO.ofD LD.int))) (nomark _)) (LW.and1 (LT.cmp op_le (ok_cI _) (LO.ofD (LD.ix (LO.s 0 (pv 0)) (LO.ofD LD.int) (fun _ _ => rfl))) (LO.ofD (LD.bi call_lenU ok_len rfl b_len (by decide +kernel) (LA.cons (LO.ofD (LD.ix (LO.s 0 (pv 0)) (LO.ofD LD.int) (fun _ _ => rfl))) LA.nil))) (nomark _))))) (LSs.cons (LS.setL (LD.bin op_fdivW ok_fdiv (LO.ofD (LD.bi call_abs ok_abs rfl b_abs (by decide +kernel) (LA.cons (LO.s 3 (pv 3)) LA.nil))) (LO.s 1 (pv 1))) (pg_sub (pv 0) (pO (LO.ofD LD.int)) set_list))
    (LSs.one (LS.ret (LF.ofD (LD.bin op_mod ok_mod (LO.ofD (LD.bt call_int1 ok_int rfl b_int (by decide +kernel) (LA.cons (LO.ofD (LD.bi call_abs ok_abs rfl b_abs (by decide +kernel) (LA.cons (LO.s 3 (pv 3)) LA.nil))) LA.nil))) (LO.s 1 (pv 1))))))) LSs.nil)
    (LSs.cons (LS.asg (i := 4) sc.nd rfl (by first | exact .inl rfl | exact .inr rfl) (LF.ofD (LD.bin op_mod ok_mod (LO.ofD (LD.bin op_powW ok_pow (LO.ofD (LD.bt call_int1 ok_int rfl b_int (by decide +kernel) (LA.cons (LO.ofD (LD.bin op_addD ok_add (LO.ofD (LD.bin op_mod ok_mod (LO.ofD (LD.bt call_int1 ok_int rfl b_int (by decide +kernel) (LA.cons (LO.s 3 (pv 3)) LA.nil))) (LO.ofD LD.int))) (LO.ofD (LD.bin op_mulI ok_mul (LO.ofD LD.int) (LO.ofD (LD.ix (LO.s 0 (pv 0)) (LO.ofD LD.int) (fun _ _ => rfl))))))) LA.nil))) (LO.ofD LD.int))) (LO.ofD LD.int))))
    (LSs.cons (LS.asg (i := 4) sc.nd rfl (by first | exact .inl rfl | exact .inr rfl) (LF.ofD (LD.bin op_mod ok_mod (LO.ofD (LD.bin op_powW ok_pow (LO.ofD (LD.bt call_int1 ok_int rfl b_int (by decide +kernel) (LA.cons (LO.ofD (LD.bin op_addD ok_add (LO.ofD (LD.bin op_mulI ok_mul (LO.s 4 (pv 4)) (LO.ofD (LD.bin op_addD ok_add (LO.ofD (LD.bin op_mulI ok_mul (LO.ofD LD.int) (LO.ofD (LD.ix (LO.s 0 (pv 0)) (LO.ofD LD.int) (fun _ _ => rfl))))) (LO.ofD LD.int))))) (LO.ofD LD.int))) LA.nil))) (LO.ofD LD.int))) (LO.ofD LD.int))))
    (LSs.one (LS.ret (LF.ofD (LD.bin op_mod ok_mod (LO.ofD (LD.bin op_fdivW ok_fdiv (LO.s 4 (pv 4)) (LO.ofD LD.int))) (LO.s 1 (pv 1))))))))))))))) hsp
abbrev st_law_one_90da : Stmt := top 18
theorem sc_law_one_90da : FnScope N_law_one_90da ["deck", "items"] (defScope st_law_one_90da) := ⟨rfl, rfl, rfl, by decide +kernel, rfl, by decide +kernel, by decide +kernel⟩
theorem cal_law_one_90da {P : Program} {w : World} {K : PySem.W.Frag} {mg : Str → Option Value} {base : Heap} {k : Nat} (hnd : base.NoDigits) (D : Dn K mg "_law_one" st_law_one_90da ["deck", "items"]) {S_law_draw_a51a : FSpec} (c_law_draw_a51a : Cal P w K mg base k "_law_draw" ["deck", "many"] S_law_draw_a51a) (b_len : mg "len" = none) {S : FSpec}
    (len : ∀ args Q, S.sp args Q → args.length = 2) (hsp : ∀ args Q, S.sp args Q → ir_law_one_90da S_law_draw_a51a (endsOf args Q) (rho0 N_law_one_90da args)) : Cal P w K mg base (k + 1) "_law_one" ["deck", "items"] S := by
  have sc := sc_law_one_90da
  exact def_cal D sc len (fun f cdv A outer s H E hr hgd =>
    (LSs.one (LS.ret (LF.ofD (LD.ix (LO.s 1 (pv 1)) (LO.ofD (LD.ofF (LF.cal c_law_draw_a51a hr hgd rfl (LA.cons (LO.s 0 (pv 0)) (LA.cons (LO.ofD (LD.bi call_lenU ok_len rfl b_len (by decide +kernel) (LA.cons (LO.s 1 (pv 1)) LA.nil))) LA.nil))))) (fun _ _ => rfl)))))) hsp
abbrev st_law_leaf_a91b : Stmt := top 19
theorem sc_law_leaf_a91b : FnScope N_law_leaf_a91b ["deck", "letters"] (defScope st_law_leaf_a91b) := ⟨rfl, rfl, rfl, by decide +kernel, rfl, by decide +kernel, by decide +kernel⟩
theorem cal_law_leaf_a91b {P : Program} {w : World} {K : PySem.W.Frag} {mg : Str → Option Value} {base : Heap} {k : Nat} (hnd : base.NoDigits) (D : Dn K mg "_law_leaf" st_law_leaf_a91b ["deck", "letters"]) {S_law_draw_a51a : FSpec} (c_law_draw_a51a : Cal P w K mg base k "_law_draw" ["deck", "many"] S_law_draw_a51a) {S_law_one_90da : FSpec} (c_law_one_90da : Cal P w K mg base k "_law_one" ["deck", "items"] S_law_one_90da) {S : FSpec}
    (len : ∀ args Q, S.sp args Q → args.length = 2) (hsp : ∀ args Q, S.sp args Q → ir_law_leaf_a91b S_law_draw_a51a S_law_one_90da (endsOf args Q) (rho0 N_law_leaf_a91b args)) : Cal P w K mg base (k + 1) "_law_leaf" ["deck", "letters"] S := by
  have sc := sc_law_leaf_a91b
  exact def_cal D sc len (fun f cdv A outer s H E hr hgd =>
    (LSs.cons (LS.asg (i := 2) sc.nd rfl (by first | exact .inl rfl | exact .inr rfl) (LF.ofD (LD.bin op_addD ok_add (LO.ofD (LD.bin op_mulI ok_mul (LO.ofD (LD.ofF (LF.cal c_law_draw_a51a hr hgd rfl (LA.cons (LO.s 0 (pv 0)) (LA.cons (LO.ofD (LD.bin op_powW ok_pow (LO.ofD LD.int) (LO.ofD LD.int))) LA.nil))))) (LO.ofD (LD.bin op_powW ok_pow (LO.ofD LD.int) (LO.ofD LD.int))))) (LO.ofD (LD.ofF (LF.cal c_law_draw_a51a hr hgd rfl (LA.cons (LO.s 0 (pv 0)) (LA.cons (LO.ofD (LD.bin op_powW ok_pow (LO.ofD LD.int) (LO.ofD LD.int))) LA.nil))))))))
    (LSs.cons (LS.asg (i := 3) sc.nd rfl (by first | exact .inl rfl | exact .inr rfl) (LF.cal c_law_one_90da hr hgd rfl (LA.cons (LO.s 0 (pv 0)) (LA.cons (LO.ofD (LD.ofF (LF.lst (LA.cons (LO.ofD (LD.var 2 (pv 2))) (LA.cons (LO.ofD (LD.neg (LO.s 2 (pv 2)))) (LA.cons (LO.ofD (LD.bin op_sub ok_sub (LO.ofD (LD.bin op_powW ok_pow (LO.ofD LD.int) (LO.ofD LD.int))) (LO.ofD LD.int))) (LA.cons (LO.ofD (LD.bin op_sub ok_sub (LO.ofD LD.int) (LO.ofD (LD.bin op_powW ok_pow (LO.ofD LD.int) (LO.ofD LD.int))))) LA.nil))))))) LA.nil))))
    (LSs.cons (LS.asg (i := 4) sc.nd rfl (by first | exact .inl rfl | exact .inr rfl) (LF.lst (LA.cons (LO.ofD LD.int) (LA.cons (LO.ofD LD.int) (LA.cons (LO.ofD (LD.neg (LO.ofD LD.int))) (LA.cons (LO.ofD LD.int) (LA.cons (LO.ofD LD.int) (LA.cons (LO.ofD (LD.neg (LO.ofD LD.int))) (LA.cons (LO.ofD LD.int) (LA.cons (LO.ofD LD.int) (LA.cons (LO.ofD (LD.bin op_sub ok_sub (LO.ofD (LD.ofF (LF.cal c_law_draw_a51a hr hgd rfl (LA.cons (LO.s 0 (pv 0)) (LA.cons (LO.ofD LD.int) LA.nil))))) (LO.ofD LD.int))) (LA.cons (LO.ofD (LD.var 3 (pv 3))) LA.nil))))))))))))
    (LSs.one (LS.ret (LF.cal c_law_one_90da hr hgd rfl (LA.cons (LO.s 0 (pv 0)) (LA.cons (LO.ofD (LD.ofF (LF.lst (LA.cons (LO.ofD (LD.ofF (LF.cal c_law_one_90da hr hgd rfl (LA.cons (LO.s 0 (pv 0)) (LA.cons (LO.ofD (LD.var 4 (pv 4))) LA.nil))))) (LA.cons (LO.ofD (LD.ofF (LF.cal c_law_one_90da hr hgd rfl (LA.cons (LO.s 0 (pv 0)) (LA.cons (LO.ofD (LD.var 1 (pv 1))) LA.nil))))) (LA.cons (LO.ofD (LD.ofF (LF.cal c_law_one_90da hr hgd rfl (LA.cons (LO.s 0 (pv 0)) (LA.cons (LO.ofD (LD.var 1 (pv 1))) LA.nil))))) LA.nil)))))) LA.nil))))))))) hsp
abbrev st_law_formula_6b2b : Stmt := top 20
theorem sc_law_formula_6b2b : FnScope N_law_formula_6b2b ["deck", "letters", "room", "deep"] (defScope st_law_formula_6b2b) := ⟨rfl, rfl, rfl, by decide +kernel, rfl, by decide +kernel, by decide +kernel⟩
theorem cal_law_formula_6b2b {P : Program} {w : World} {K : PySem.W.Frag} {mg : Str → Option Value} {base : Heap} {k : Nat} (hnd : base.NoDigits) (D : Dn K mg "_law_formula" st_law_formula_6b2b ["deck", "letters", "room", "deep"]) {S_law_draw_a51a : FSpec} (c_law_draw_a51a : Cal P w K mg base k "_law_draw" ["deck", "many"] S_law_draw_a51a) {S_law_leaf_a91b : FSpec} (c_law_leaf_a91b : Cal P w K mg base k "_law_leaf" ["deck", "letters"] S_law_leaf_a91b) {S_law_formula_6b2b : FSpec} (c_law_formula_6b2b : Cal P w K mg base k "_law_formula" ["deck", "letters", "room", "deep"] S_law_formula_6b2b) (b_max : mg "max" = none) {S : FSpec}
    (len : ∀ args Q, S.sp args Q → args.length = 4) (hsp : ∀ args Q, S.sp args Q → ir_law_formula_6b2b S_law_draw_a51a S_law_leaf_a91b S_law_formula_6b2b (endsOf args Q) (rho0 N_law_formula_6b2b args)) : Cal P w K mg base (k + 1) "_law_formula" ["deck", "letters", "room", "deep"] S := by
  have sc := sc_law_formula_6b2b
  exact def_cal D sc len (fun f cdv A outer s H E hr hgd =>
    (LSs.cons (LS.asg (i := 4) sc.nd rfl (by first | exact .inl rfl | exact .inr rfl) (LF.cal c_law_draw_a51a hr hgd rfl (LA.cons (LO.s 0 (pv 0)) (LA.cons (LO.ofD LD.int) LA.nil))))
    (LSs.cons (LS.ite (LT.w (LW.or (LT.cmp op_lt (ok_cI _) (LO.s 3 (pv 3)) (LO.ofD LD.int) (nomark _)) (LW.or (LT.cmp op_lt (ok_cI _) (LO.s 4 (pv 4)) (LO.ofD LD.int) (nomark _)) (LW.or1 (LT.w (LW.and (LT.cmp op_lt (ok_cI _) (LO.s 2 (pv 2)) (LO.ofD LD.int) (nomark _)) (LW.and1 (LT.cmp op_in_seq (ok_in false) (LO.s 4 (pv 4)) (LO.ofD (LD.ofF (LF.lst (LA.cons (LO.ofD LD.int) (LA.cons (LO.ofD LD.int) (LA.cons (LO.ofD LD.int) LA.nil)))))) rfl)))))))) (LSs.one (LS.ret (LF.cal c_law_leaf_a91b hr hgd rfl (LA.cons (LO.s 0 (pv 0)) (LA.cons (LO.ofD (LD.var 1 (pv 1))) LA.nil))))) LSs.nil)
    (LSs.cons (LS.ite (LT.cmp op_lt (ok_cI _) (LO.s 4 (pv 4)) (LO.ofD LD.int) (nomark _)) (LSs.cons (LS.asg (i := 5) sc.nd rfl (by first | exact .inl rfl | exact .inr rfl) (LF.ofD (LD.ix (LO.ofD (LD.ofF (LF.lst (LA.cons (LO.ofD LD.str) (LA.cons (LO.ofD LD.str) (LA.cons (LO.ofD LD.str) LA.nil)))))) (LO.ofD (LD.bin op_sub ok_sub (LO.s 4 (pv 4)) (LO.ofD LD.int))) (fun _ _ => rfl))))
    (LSs.cons (LS.asg (i := 6) sc.nd rfl (by first | exact .inl rfl | exact .inr rfl) (LF.cal c_law_formula_6b2b hr hgd rfl (LA.cons (LO.s 0 (pv 0)) (LA.cons (LO.ofD (LD.var 1 (pv 1))) (LA.cons (LO.ofD (LD.var 2 (pv 2))) (LA.cons (LO.ofD (LD.bin op_sub ok_sub (LO.s 3 (pv 3)) (LO.ofD LD.int))) LA.nil))))))
    (LSs.one (LS.ret (LF.ofD (LD.tup (LA.cons (LO.ofD (LD.var 5 (pv 5))) (LA.cons (LO.ofD (LD.var 6 (pv 6))) (LA.cons (LO.ofD (LD.ofF (LF.cal c_law_formula_6b2b hr hgd rfl (LA.cons (LO.s 0 (pv 0)) (LA.cons (LO.ofD (LD.var 1 (pv 1))) (LA.cons (LO.ofD (LD.var 2 (pv 2))) (LA.cons (LO.ofD (LD.bin op_sub ok_sub (LO.s 3 (pv 3)) (LO.ofD LD.int))) LA.nil))))))) LA.nil))))))))) LSs.nil)
    (LSs.cons (LS.ite (LT.cmp (op_eqU hr.units) ok_eq (LO.s 4 (pv 4)) (LO.ofD LD.int) (nomark _)) (LSs.cons (LS.asg (i := 7) sc.nd rfl (by first | exact .inl rfl | exact .inr rfl) (LF.cal c_law_draw_a51a hr hgd rfl (LA.cons (LO.s 0 (pv 0)) (LA.cons (LO.ofD (LD.bin op_addD ok_add (LO.s 2 (pv 2)) (LO.ofD LD.int))) LA.nil))))
    (LSs.one (LS.ret (LF.ofD (LD.tup (LA.cons (LO.ofD LD.str) (LA.cons (LO.ofD (LD.ofF (LF.cal c_law_formula_6b2b hr hgd rfl (LA.cons (LO.s 0 (pv 0)) (LA.cons (LO.ofD (LD.var 1 (pv 1))) (LA.cons (LO.ofD (LD.bin op_fdivW ok_fdiv (LO.s 2 (pv 2)) (LO.ofD (LD.bi (call_max2 rfl) ok_max2 rfl b_max (by decide +kernel) (LA.cons (LO.ofD LD.int) (LA.cons (LO.s 7 (pv 7)) LA.nil)))))) (LA.cons (LO.ofD (LD.bin op_sub ok_sub (LO.s 3 (pv 3)) (LO.ofD LD.int))) LA.nil))))))) (LA.cons (LO.ofD (LD.var 7 (pv 7))) LA.nil)))))))) LSs.nil)
    (LSs.cons (LS.asg (i := 8) sc.nd rfl (by first | exact .inl rfl | exact .inr rfl) (LF.ofD (LD.bin op_addD ok_add (LO.ofD LD.int) (LO.ofD (LD.ofF (LF.cal c_law_draw_a51a hr hgd rfl (LA.cons (LO.s 0 (pv 0)) (LA.cons (LO.ofD (LD.bin op_sub ok_sub (LO.s 2 (pv 2)) (LO.ofD LD.int))) LA.nil))))))))
    (LSs.cons (LS.asg (i := 6) sc.nd rfl (by first | exact .inl rfl | exact .inr rfl) (LF.cal c_law_formula_6b2b hr hgd rfl (LA.cons (LO.s 0 (pv 0)) (LA.cons (LO.ofD (LD.var 1 (pv 1))) (LA.cons (LO.ofD (LD.var 8 (pv 8))) (LA.cons (LO.ofD (LD.bin op_sub ok_sub (LO.s 3 (pv 3)) (LO.ofD LD.int))) LA.nil))))))
    (LSs.one (LS.ret (LF.ofD (LD.tup (LA.cons (LO.ofD LD.str) (LA.cons (LO.ofD (LD.var 6 (pv 6))) (LA.cons (LO.ofD (LD.ofF (LF.cal c_law_formula_6b2b hr hgd rfl (LA.cons (LO.s 0 (pv 0)) (LA.cons (LO.ofD (LD.var 1 (pv 1))) (LA.cons (LO.ofD (LD.bin op_sub ok_sub (LO.s 2 (pv 2)) (LO.s 8 (pv 8)))) (LA.cons (LO.ofD (LD.bin op_sub ok_sub (LO.s 3 (pv 3)) (LO.ofD LD.int))) LA.nil))))))) LA.nil)))))))))))))) hsp
abbrev st_law_clock_4333 : Stmt := top 21
theorem sc_law_clock_4333 : FnScope N_law_clock_4333 ["deck"] (defScope st_law_clock_4333) := ⟨rfl, rfl, rfl, by decide +kernel, rfl, by decide +kernel, by decide +kernel⟩
theorem cal_law_clock_4333 {P : Program} {w : World} {K : PySem.W.Frag} {mg : Str → Option Value} {base : Heap} {k : Nat} (hnd : base.NoDigits) (D : Dn K mg "_law_clock" st_law_clock_4333 ["deck"]) {S_law_draw_a51a : FSpec} (c_law_draw_a51a : Cal P w K mg base k "_law_draw" ["deck", "many"] S_law_draw_a51a) {S_law_one_90da : FSpec} (c_law_one_90da : Cal P w K mg base k "_law_one" ["deck", "items"] S_law_one_90da) {S : FSpec}
    (len : ∀ args Q, S.sp args Q → args.length = 1) (hsp : ∀ args Q, S.sp args Q → ir_law_clock_4333 S_law_draw_a51a S_law_one_90da (endsOf args Q) (rho0 N_law_clock_4333 args)) : Cal P w K mg base (k + 1) "_law_clock" ["deck"] S := by
  have sc := sc_law_clock_4333
  exact def_cal D sc len (fun f cdv A outer s H E hr hgd =>
    (LSs.cons (LS.asg (i := 1) sc.nd rfl (by first | exact .inl rfl | exact .inr rfl) (LF.lst (LA.cons (LO.ofD (LD.bin op_addD ok_add (LO.ofD LD.int) (LO.ofD (LD.ofF (LF.cal c_law_draw_a51a hr hgd rfl (LA.cons (LO.s 0 (pv 0)) (LA.cons (LO.ofD LD.int) LA.nil))))))) (LA.cons (LO.ofD (LD.bin op_addD ok_add (LO.ofD LD.int) (LO.ofD (LD.ofF (LF.cal c_law_draw_a51a hr hgd rfl (LA.cons (LO.s 0 (pv 0)) (LA.cons (LO.ofD LD.int) LA.nil))))))) (LA.cons (LO.ofD (LD.bin op_shl ok_shl (LO.ofD LD.int) (LO.ofD (LD.ofF (LF.cal c_law_draw_a51a hr hgd rfl (LA.cons (LO.s 0 (pv 0)) (LA.cons (LO.ofD LD.int) LA.nil))))))) (LA.cons (LO.ofD LD.int) (LA.cons (LO.ofD LD.int) (LA.cons (LO.ofD (LD.bin op_mulI ok_mul (LO.ofD LD.int) (LO.ofD (LD.bin op_powW ok_pow (LO.ofD LD.int) (LO.ofD LD.int))))) LA.nil))))))))
    (LSs.cons (LS.asg (i := 1) sc.nd rfl (by first | exact .inl rfl | exact .inr rfl) (LF.ofD (LD.bin op_addD ok_add (LO.s 1 (pv 1)) (LO.ofD (LD.ofF (LF.lst (LA.cons (LO.ofD (LD.bin op_sub ok_sub (LO.ofD (LD.bin op_powW ok_pow (LO.ofD LD.int) (LO.ofD LD.int))) (LO.ofD (LD.ofF (LF.cal c_law_draw_a51a hr hgd rfl (LA.cons (LO.s 0 (pv 0)) (LA.cons (LO.ofD LD.int) LA.nil))))))) (LA.cons (LO.ofD (LD.bin op_addD ok_add (LO.ofD LD.int) (LO.ofD (LD.bin op_mulI ok_mul (LO.ofD (LD.ofF (LF.cal c_law_draw_a51a hr hgd rfl (LA.cons (LO.s 0 (pv 0)) (LA.cons (LO.ofD (LD.bin op_powW ok_pow (LO.ofD LD.int) (LO.ofD LD.int))) LA.nil))))) (LO.ofD (LD.ofF (LF.cal c_law_draw_a51a hr hgd rfl (LA.cons (LO.s 0 (pv 0)) (LA.cons (LO.ofD (LD.bin op_powW ok_pow (LO.ofD LD.int) (LO.ofD LD.int))) LA.nil))))))))) LA.nil))))))))
    (LSs.one (LS.ret (LF.cal c_law_one_90da hr hgd rfl (LA.cons (LO.s 0 (pv 0)) (LA.cons (LO.ofD (LD.var 1 (pv 1))) LA.nil)))))))) hsp
abbrev st_common : Stmt := top 5
theorem sc_common : FnScope N_common ["one", "other"] (defScope st_common) := ⟨rfl, rfl, rfl, by decide +kernel, rfl, by decide +kernel, by decide +kernel⟩
theorem cal_common {P : Program} {w : World} {K : PySem.W.Frag} {mg : Str → Option Value} {base : Heap} {k : Nat} (hnd : base.NoDigits) (D : Dn K mg "common" st_common ["one", "other"]) {S : FSpec}
    (len : ∀ args Q, S.sp args Q → args.length = 2) (hsp : ∀ args Q, S.sp args Q → ir_common (endsOf args Q) (rho0 N_common args)) : Cal P w K mg base (k + 1) "common" ["one", "other"] S := by
  have sc := sc_common
  exact def_cal D sc len (fun f cdv A outer s H E hr hgd =>
    (LSs.cons (LS.while PassesOwn.never (LT.cmp op_gt (ok_cI _) (LO.s 1 (pv 1)) (LO.ofD LD.int) (nomark _)) (LSs.one (LS.par (i := 0) (j := 1) rfl sc.nd rfl rfl (by decide) rfl rfl (LF.ofD (LD.var 1 (pv 1))) (LF.ofD (LD.bin op_mod ok_mod (LO.s 0 (pv 0)) (LO.s 1 (pv 1)))) rfl)))
    (LSs.one (LS.retV 0 (pv 0))))) hsp
abbrev st_factorial : Stmt := top 6
theorem sc_factorial : FnScope N_factorial ["number"] (defScope st_factorial) := ⟨rfl, rfl, rfl, by decide +kernel, rfl, by decide +kernel, by decide +kernel⟩
theorem cal_factorial {P : Program} {w : World} {K : PySem.W.Frag} {mg : Str → Option Value} {base : Heap} {k : Nat} (hnd : base.NoDigits) (D : Dn K mg "factorial" st_factorial ["number"]) (b_range : mg "range" = none) {S : FSpec}
    (len : ∀ args Q, S.sp args Q → args.length = 1) (hsp : ∀ args Q, S.sp args Q → ir_factorial (endsOf args Q) (rho0 N_factorial args)) : Cal P w K mg base (k + 1) "factorial" ["number"] S := by
  have sc := sc_factorial
  exact def_cal D sc len (fun f cdv A outer s H E hr hgd =>
    (LSs.cons (LS.asg (i := 1) sc.nd rfl (by first | exact .inl rfl | exact .inr rfl) (LF.ofD LD.int))
    (LSs.cons (LS.for (pt := (.nm 2)) PassesOwn.never rfl (LI.range2 rfl b_range (LA.cons (LO.ofD LD.int) (LA.cons (LO.ofD (LD.bin op_addD ok_add (LO.s 0 (pv 0)) (LO.ofD LD.int))) LA.nil))) (pg_name (i := 2) sc.nd rfl (by first | exact .inl rfl | exact .inr rfl)) (LSs.one (LS.asg (i := 1) sc.nd rfl (by first | exact .inl rfl | exact .inr rfl) (LF.ofD (LD.bin op_mulI ok_mul (LO.s 1 (pv 1)) (LO.s 2 (pv 2)))))))
    (LSs.one (LS.retV 1 (pv 1)))))) hsp
abbrev st_step_of : Stmt := top 7
theorem sc_step_of : FnScope N_step_of ["clock", "i", "j"] (defScope st_step_of) := ⟨rfl, rfl, rfl, by decide +kernel, rfl, by decide +kernel, by decide +kernel⟩
theorem cal_step_of {P : Program} {w : World} {K : PySem.W.Frag} {mg : Str → Option Value} {base : Heap} {k : Nat} (hnd : base.NoDigits) (D : Dn K mg "step_of" st_step_of ["clock", "i", "j"]) {S_common : FSpec} (c_common : Cal P w K mg base k "common" ["one", "other"] S_common) {S_factorial : FSpec} (c_factorial : Cal P w K mg base k "factorial" ["number"] S_factorial) {S : FSpec}
    (len : ∀ args Q, S.sp args Q → args.length = 3) (hsp : ∀ args Q, S.sp args Q → ir_step_of S_common S_factorial (endsOf args Q) (rho0 N_step_of args)) : Cal P w K mg base (k + 1) "step_of" ["clock", "i", "j"] S := by
  have sc := sc_step_of
  exact def_cal D sc len (fun f cdv A outer s H E hr hgd =>
    (LSs.one (LS.ret (LF.ofD (LD.bin op_fdivW ok_fdiv (LO.s 0 (pv 0)) (LO.ofD (LD.ofF (LF.cal c_common hr hgd rfl (LA.cons (LO.ofD (LD.var 0 (pv 0))) (LA.cons (LO.ofD (LD.bin op_mulI ok_mul (LO.ofD (LD.ofF (LF.cal c_factorial hr hgd rfl (LA.cons (LO.ofD (LD.var 1 (pv 1))) LA.nil)))) (LO.ofD (LD.ofF (LF.cal c_factorial hr hgd rfl (LA.cons (LO.ofD (LD.var 2 (pv 2))) LA.nil)))))) LA.nil)))))))))) hsp
abbrev st_made_plain : Stmt := top 12
theorem sc_made_plain : FnScope N_made_plain ["rows", "clock"] (defScope st_made_plain) := ⟨rfl, rfl, rfl, by decide +kernel, rfl, by decide +kernel, by decide +kernel⟩
theorem cal_made_plain {P : Program} {w : World} {K : PySem.W.Frag} {mg : Str → Option Value} {base : Heap} {k : Nat} (hnd : base.NoDigits) (D : Dn K mg "made_plain" st_made_plain ["rows", "clock"]) {S_step_of : FSpec} (c_step_of : Cal P w K mg base k "step_of" ["clock", "i", "j"] S_step_of) (b_tuple : mg "tuple" = none) {S : FSpec}
    (len : ∀ args Q, S.sp args Q → args.length = 2) (hsp : ∀ args Q, S.sp args Q → ir_made_plain S_step_of (endsOf args Q) (rho0 N_made_plain args)) : Cal P w K mg base (k + 1) "made_plain" ["rows", "clock"] S := by
  have sc := sc_made_plain
  exact def_cal D sc len (fun f cdv A outer s H E hr hgd =>
    (LSs.cons (LS.lc (i := 2) (pt := (.tp [3, 4, 5])) (vs := [3, 4, 5]) rfl sc.nd rfl rfl (sw_true rfl rfl rfl (by decide +kernel)) (LI.own 0 (pv 0)) (blk_mk (N := N_made_plain) (own := [("i", 3), ("j", 4), ("c", 5)]) ["clock"] (by decide +kernel) ⟨by first | exact .inl rfl | exact .inr rfl, trivial⟩) rfl (by decide) (fun _ _ _ _ _ => (pg_tup rfl (pgs_cons (pg_name (i := 3) sc.nd rfl (by first | exact .inl rfl | exact .inr rfl)) (pgs_cons (pg_name (i := 4) sc.nd rfl (by first | exact .inl rfl | exact .inr rfl)) (pgs_cons (pg_name (i := 5) sc.nd rfl (by first | exact .inl rfl | exact .inr rfl)) pgs_nil))))) (fun _ _ _ _ _ => LT.yes) (fun _ _ _ _ _ => (LD.tup (LA.cons (LO.ofD (LD.var 3 (pv 3))) (LA.cons (LO.ofD (LD.var 4 (pv 4))) (LA.cons (LO.ofD (LD.bin op_mod ok_mod (LO.s 5 (pv 5)) (LO.ofD (LD.ofF (LF.cal c_step_of hr hgd rfl (LA.cons (LO.ofD (LD.var 1 (pv 1))) (LA.cons (LO.ofD (LD.var 3 (pv 3))) (LA.cons (LO.ofD (LD.var 4 (pv 4))) LA.nil)))))))) LA.nil))))))
    (LSs.one (LS.ret (LF.ofD (LD.bt call_tuple_of ok_tuple rfl b_tuple (by decide +kernel) (LA.cons (LO.ofD (LD.ofF (LF.lc (pt := (.nm 6)) (vs := [6]) rfl sc.nd (LI.own 2 (pv 2)) (blk_mk (N := N_made_plain) (own := [("row", 6)]) [] (by decide +kernel) trivial) rfl (by decide) (fun _ _ _ _ _ => (pg_name (i := 6) sc.nd rfl (by first | exact .inl rfl | exact .inr rfl))) (fun _ _ _ _ _ => pts_one (pT (LT.cmp (op_neU hr.units) ok_ne (LO.ofD (LD.ix (LO.s 6 (pv 6)) (LO.ofD LD.int) (fun _ _ => rfl))) (LO.ofD LD.int) (nomark _)))) (fun _ _ _ _ _ => (LD.var 6 (pv 6)))))) LA.nil))))))) hsp
abbrev st_differences : Stmt := top 9
theorem sc_differences : FnScope N_differences ["items"] (defScope st_differences) := ⟨rfl, rfl, rfl, by decide +kernel, rfl, by decide +kernel, by decide +kernel⟩
theorem cal_differences {P : Program} {w : World} {K : PySem.W.Frag} {mg : Str → Option Value} {base : Heap} {k : Nat} (hnd : base.NoDigits) (D : Dn K mg "differences" st_differences ["items"]) (b_zip : mg "zip" = none) {S : FSpec}
    (len : ∀ args Q, S.sp args Q → args.length = 1) (hsp : ∀ args Q, S.sp args Q → ir_differences (endsOf args Q) (rho0 N_differences args)) : Cal P w K mg base (k + 1) "differences" ["items"] S := by
  have sc := sc_differences
  exact def_cal D sc len (fun f cdv A outer s H E hr hgd =>
    (LSs.cons (LS.asg (i := 1) sc.nd rfl (by first | exact .inl rfl | exact .inr rfl) (LF.lst LA.nil))
    (LSs.cons (LS.while PassesOwn.never (LT.cmp (op_neU hr.units) ok_ne (LO.s 0 (pv 0)) (LO.ofD (LD.ofF (LF.lst LA.nil))) (nomark _)) (LSs.cons (LS.app (pe_bm PySem.F.plainAttrs_list PySem.F.slot_list_append PySem.F.type_list_append mt_append (pv 1) (pa_cons (pD (LD.ix (LO.s 0 (pv 0)) (LO.ofD LD.int) (fun _ _ => rfl))) pa_nil)))
    (LSs.one (LS.lc (i := 0) (pt := (.tp [2, 3])) (vs := [2, 3]) rfl sc.nd rfl rfl (sw_true rfl rfl rfl (by decide +kernel)) (LI.zip rfl b_zip (LA.cons (LO.ofD (LD.var 0 (pv 0))) (LA.cons (LO.ofD (LD.sl (LO.s 0 (pv 0)) (LP.some (LO.ofD LD.int)) LP.none)) LA.nil))) (blk_mk (N := N_differences) (own := [("earlier", 2), ("later", 3)]) [] (by decide +kernel) trivial) rfl (by decide) (fun _ _ _ _ _ => (pg_tup rfl (pgs_cons (pg_name (i := 2) sc.nd rfl (by first | exact .inl rfl | exact .inr rfl)) (pgs_cons (pg_name (i := 3) sc.nd rfl (by first | exact .inl rfl | exact .inr rfl)) pgs_nil)))) (fun _ _ _ _ _ => LT.yes) (fun _ _ _ _ _ => (LD.bin op_sub ok_sub (LO.s 3 (pv 3)) (LO.s 2 (pv 2))))))))
    (LSs.one (LS.retV 1 (pv 1)))))) hsp
abbrev st_powered : Stmt := top 2
theorem sc_powered : FnScope N_powered ["number", "times"] (defScope st_powered) := ⟨rfl, rfl, rfl, by decide +kernel, rfl, by decide +kernel, by decide +kernel⟩
theorem cal_powered {P : Program} {w : World} {K : PySem.W.Frag} {mg : Str → Option Value} {base : Heap} {k : Nat} (hnd : base.NoDigits) (D : Dn K mg "powered" st_powered ["number", "times"]) (b_range : mg "range" = none) {S : FSpec}
    (len : ∀ args Q, S.sp args Q → args.length = 2) (hsp : ∀ args Q, S.sp args Q → ir_powered (endsOf args Q) (rho0 N_powered args)) : Cal P w K mg base (k + 1) "powered" ["number", "times"] S := by
  have sc := sc_powered
  exact def_cal D sc len (fun f cdv A outer s H E hr hgd =>
    (LSs.cons (LS.asg (i := 2) sc.nd rfl (by first | exact .inl rfl | exact .inr rfl) (LF.ofD LD.int))
    (LSs.cons (LS.for (pt := (.nm 3)) PassesOwn.never rfl (LI.range1 rfl b_range (LA.cons (LO.s 1 (pv 1)) LA.nil)) (pg_name (i := 3) sc.nd rfl (by first | exact .inl rfl | exact .inr rfl)) (LSs.one (LS.asg (i := 2) sc.nd rfl (by first | exact .inl rfl | exact .inr rfl) (LF.ofD (LD.bin op_mulI ok_mul (LO.s 2 (pv 2)) (LO.s 0 (pv 0)))))))
    (LSs.one (LS.retV 2 (pv 2)))))) hsp
abbrev st_worth : Stmt := top 3
theorem sc_worth : FnScope N_worth ["formula", "x", "y"] (defScope st_worth) := ⟨rfl, rfl, rfl, by decide +kernel, rfl, by decide +kernel, by decide +kernel⟩
theorem cal_worth {P : Program} {w : World} {K : PySem.W.Frag} {mg : Str → Option Value} {base : Heap} {k : Nat} (hnd : base.NoDigits) (D : Dn K mg "worth" st_worth ["formula", "x", "y"]) {S_worth : FSpec} (c_worth : Cal P w K mg base k "worth" ["formula", "x", "y"] S_worth) {S_powered : FSpec} (c_powered : Cal P w K mg base k "powered" ["number", "times"] S_powered) (b_isinstance : mg "isinstance" = none) (b_tuple : mg "tuple" = none) {S : FSpec}
    (len : ∀ args Q, S.sp args Q → args.length = 3) (hsp : ∀ args Q, S.sp args Q → ir_worth S_worth S_powered (endsOf args Q) (rho0 N_worth args)) : Cal P w K mg base (k + 1) "worth" ["formula", "x", "y"] S := by
  have sc := sc_worth
  exact def_cal D sc len (fun f cdv A outer s H E hr hgd =>
    (LSs.cons (LS.ite (LT.not (LT.val (LD.isi "tuple" (by simp) rfl b_isinstance rfl b_tuple (by decide +kernel) (LO.s 0 (pv 0))))) (LSs.one (LS.ret (LF.ofD (LD.getF (hu_of hr) (LF.dict (LPr.cs (LD.var 1 (pv 1)) (LPr.cs (LD.var 2 (pv 2)) LPr.nil)) (by decide +kernel) rfl (by simp) (by decide +kernel) (by decide +kernel)) (LO.s 0 (pv 0)) (LO.s 0 (pv 0)) ⟨rfl, rfl, rfl, rfl⟩)))) LSs.nil)
    (LSs.cons (LS.asg (i := 3) sc.nd rfl (by first | exact .inl rfl | exact .inr rfl) (LF.cal c_worth hr hgd rfl (LA.cons (LO.ofD (LD.ix (LO.s 0 (pv 0)) (LO.ofD LD.int) (fun _ _ => rfl))) (LA.cons (LO.ofD (LD.var 1 (pv 1))) (LA.cons (LO.ofD (LD.var 2 (pv 2))) LA.nil)))))
    (LSs.cons (LS.ite (LT.cmp (op_eqU hr.units) ok_eq (LO.ofD (LD.ix (LO.s 0 (pv 0)) (LO.ofD LD.int) (fun _ _ => rfl))) (LO.ofD LD.str) (nomark _)) (LSs.one (LS.ret (LF.cal c_powered hr hgd rfl (LA.cons (LO.ofD (LD.var 3 (pv 3))) (LA.cons (LO.ofD (LD.ix (LO.s 0 (pv 0)) (LO.ofD LD.int) (fun _ _ => rfl))) LA.nil))))) LSs.nil)
    (LSs.cons (LS.asg (i := 4) sc.nd rfl (by first | exact .inl rfl | exact .inr rfl) (LF.cal c_worth hr hgd rfl (LA.cons (LO.ofD (LD.ix (LO.s 0 (pv 0)) (LO.ofD LD.int) (fun _ _ => rfl))) (LA.cons (LO.ofD (LD.var 1 (pv 1))) (LA.cons (LO.ofD (LD.var 2 (pv 2))) LA.nil)))))
    (LSs.cons (LS.ite (LT.cmp (op_eqU hr.units) ok_eq (LO.ofD (LD.ix (LO.s 0 (pv 0)) (LO.ofD LD.int) (fun _ _ => rfl))) (LO.ofD LD.str) (nomark _)) (LSs.one (LS.ret (LF.ofD (LD.bin op_mulI ok_mul (LO.s 3 (pv 3)) (LO.s 4 (pv 4)))))) LSs.nil)
    (LSs.one (LS.ret (LF.ofD (LD.ite (LT.cmp (op_eqU hr.units) ok_eq (LO.ofD (LD.ix (LO.s 0 (pv 0)) (LO.ofD LD.int) (fun _ _ => rfl))) (LO.ofD LD.str) (nomark _)) (LD.bin op_addD ok_add (LO.s 3 (pv 3)) (LO.s 4 (pv 4))) (LD.bin op_sub ok_sub (LO.s 3 (pv 3)) (LO.s 4 (pv 4))))))))))))) hsp
abbrev st_square : Stmt := top 10
theorem sc_square : FnScope N_square ["formula"] (defScope st_square) := ⟨rfl, rfl, rfl, by decide +kernel, rfl, by decide +kernel, by decide +kernel⟩
theorem cal_square {P : Program} {w : World} {K : PySem.W.Frag} {mg : Str → Option Value} {base : Heap} {k : Nat} (hnd : base.NoDigits) (D : Dn K mg "square" st_square ["formula"]) {S_differences : FSpec} (c_differences : Cal P w K mg base k "differences" ["items"] S_differences) {S_worth : FSpec} (c_worth : Cal P w K mg base k "worth" ["formula", "x", "y"] S_worth) (b_range : mg "range" = none) (g_MOST_REACH : Glb K mg "MOST_REACH" (.int 16)) {S : FSpec}
    (len : ∀ args Q, S.sp args Q → args.length = 1) (hsp : ∀ args Q, S.sp args Q → ir_square S_differences S_worth (endsOf args Q) (rho0 N_square args)) : Cal P w K mg base (k + 1) "square" ["formula"] S := by
  have sc := sc_square
  exact def_cal D sc len (fun f cdv A outer s H E hr hgd =>
    (LSs.cons (LS.asg (i := 1) sc.nd rfl (by first | exact .inl rfl | exact .inr rfl) (LF.ofD (LD.bin op_addD ok_add (LO.ofD (LD.glb g_MOST_REACH rfl)) (LO.ofD LD.int))))
    (LSs.cons (LS.asg (i := 2) sc.nd rfl (by first | exact .inl rfl | exact .inr rfl) (LF.lc (pt := (.nm 4)) (vs := [4]) rfl sc.nd (LI.range1 rfl b_range (LA.cons (LO.s 1 (pv 1)) LA.nil)) (blk_mk (N := N_square) (own := [("x", 4)]) ["size", "formula"] (by decide +kernel) ⟨by first | exact .inl rfl | exact .inr rfl, by first | exact .inl rfl | exact .inr rfl, trivial⟩) rfl (by decide) (fun _ _ _ _ _ => (pg_name (i := 4) sc.nd rfl (by first | exact .inl rfl | exact .inr rfl))) (fun _ _ _ _ _ => LT.yes) (fun _ _ _ _ _ => (LD.ofF (LF.cal c_differences hr hgd rfl (LA.cons (LO.ofD (LD.ofF (LF.lc (pt := (.nm 5)) (vs := [5]) rfl sc.nd (LI.range1 rfl b_range (LA.cons (LO.s 1 (pv 1)) LA.nil)) (blk_mk (N := N_square) (own := [("y", 5)]) ["formula", "x"] (by decide +kernel) ⟨by first | exact .inl rfl | exact .inr rfl, by first | exact .inl rfl | exact .inr rfl, trivial⟩) rfl (by decide) (fun _ _ _ _ _ => (pg_name (i := 5) sc.nd rfl (by first | exact .inl rfl | exact .inr rfl))) (fun _ _ _ _ _ => LT.yes) (fun _ _ _ _ _ => (LD.ofF (LF.cal c_worth hr hgd rfl (LA.cons (LO.ofD (LD.var 0 (pv 0))) (LA.cons (LO.ofD (LD.var 4 (pv 4))) (LA.cons (LO.ofD (LD.var 5 (pv 5))) LA.nil))))))))) LA.nil))))))
    (LSs.cons (LS.asg (i := 3) sc.nd rfl (by first | exact .inl rfl | exact .inr rfl) (LF.lc (pt := (.nm 6)) (vs := [6]) rfl sc.nd (LI.range1 rfl b_range (LA.cons (LO.s 1 (pv 1)) LA.nil)) (blk_mk (N := N_square) (own := [("j", 6)]) ["size", "by_y"] (by decide +kernel) ⟨by first | exact .inl rfl | exact .inr rfl, by first | exact .inl rfl | exact .inr rfl, trivial⟩) rfl (by decide) (fun _ _ _ _ _ => (pg_name (i := 6) sc.nd rfl (by first | exact .inl rfl | exact .inr rfl))) (fun _ _ _ _ _ => LT.yes) (fun _ _ _ _ _ => (LD.ofF (LF.cal c_differences hr hgd rfl (LA.cons (LO.ofD (LD.ofF (LF.lc (pt := (.nm 4)) (vs := [4]) rfl sc.nd (LI.range1 rfl b_range (LA.cons (LO.s 1 (pv 1)) LA.nil)) (blk_mk (N := N_square) (own := [("x", 4)]) ["by_y", "j"] (by decide +kernel) ⟨by first | exact .inl rfl | exact .inr rfl, by first | exact .inl rfl | exact .inr rfl, trivial⟩) rfl (by decide) (fun _ _ _ _ _ => (pg_name (i := 4) sc.nd rfl (by first | exact .inl rfl | exact .inr rfl))) (fun _ _ _ _ _ => LT.yes) (fun _ _ _ _ _ => (LD.ix (LO.ofD (LD.ix (LO.s 2 (pv 2)) (LO.s 4 (pv 4)) (fun _ _ => rfl))) (LO.s 6 (pv 6)) (fun _ _ => rfl)))))) LA.nil))))))
    (LSs.one (LS.ret (LF.lc (pt := (.nm 7)) (vs := [7]) rfl sc.nd (LI.range1 rfl b_range (LA.cons (LO.s 1 (pv 1)) LA.nil)) (blk_mk (N := N_square) (own := [("i", 7)]) ["size", "columns"] (by decide +kernel) ⟨by first | exact .inl rfl | exact .inr rfl, by first | exact .inl rfl | exact .inr rfl, trivial⟩) rfl (by decide) (fun _ _ _ _ _ => (pg_name (i := 7) sc.nd rfl (by first | exact .inl rfl | exact .inr rfl))) (fun _ _ _ _ _ => LT.yes) (fun _ _ _ _ _ => (LD.ofF (LF.lc (pt := (.nm 6)) (vs := [6]) rfl sc.nd (LI.range1 rfl b_range (LA.cons (LO.s 1 (pv 1)) LA.nil)) (blk_mk (N := N_square) (own := [("j", 6)]) ["columns", "i"] (by decide +kernel) ⟨by first | exact .inl rfl | exact .inr rfl, by first | exact .inl rfl | exact .inr rfl, trivial⟩) rfl (by decide) (fun _ _ _ _ _ => (pg_name (i := 6) sc.nd rfl (by first | exact .inl rfl | exact .inr rfl))) (fun _ _ _ _ _ => LT.yes) (fun _ _ _ _ _ => (LD.ix (LO.ofD (LD.ix (LO.s 3 (pv 3)) (LO.s 6 (pv 6)) (fun _ _ => rfl))) (LO.s 7 (pv 7)) (fun _ _ => rfl))))))))))))) hsp
abbrev st_rows_of : Stmt := top 11
theorem sc_rows_of : FnScope N_rows_of ["formula"] (defScope st_rows_of) := ⟨rfl, rfl, rfl, by decide +kernel, rfl, by decide +kernel, by decide +kernel⟩
theorem cal_rows_of {P : Program} {w : World} {K : PySem.W.Frag} {mg : Str → Option Value} {base : Heap} {k : Nat} (hnd : base.NoDigits) (D : Dn K mg "rows_of" st_rows_of ["formula"]) {S_square : FSpec} (c_square : Cal P w K mg base k "square" ["formula"] S_square) {S_factorial : FSpec} (c_factorial : Cal P w K mg base k "factorial" ["number"] S_factorial) (b_enumerate : mg "enumerate" = none) (b_tuple : mg "tuple" = none) {S : FSpec}
    (len : ∀ args Q, S.sp args Q → args.length = 1) (hsp : ∀ args Q, S.sp args Q → ir_rows_of S_square S_factorial (endsOf args Q) (rho0 N_rows_of args)) : Cal P w K mg base (k + 1) "rows_of" ["formula"] S := by
  have sc := sc_rows_of
  exact def_cal D sc len (fun f cdv A outer s H E hr hgd =>
    (LSs.cons (LS.asg (i := 1) sc.nd rfl (by first | exact .inl rfl | exact .inr rfl) (LF.lst LA.nil))
    (LSs.cons (LS.for (pt := (.tp [2, 3])) PassesOwn.never rfl (LI.enum rfl b_enumerate (LD.ofF (LF.cal c_square hr hgd rfl (LA.cons (LO.ofD (LD.var 0 (pv 0))) LA.nil)))) (pg_tup rfl (pgs_cons (pg_name (i := 2) sc.nd rfl (by first | exact .inl rfl | exact .inr rfl)) (pgs_cons (pg_name (i := 3) sc.nd rfl (by first | exact .inl rfl | exact .inr rfl)) pgs_nil))) (LSs.one (LS.for (pt := (.tp [4, 5])) PassesOwn.never rfl (LI.enum rfl b_enumerate (LD.var 3 (pv 3))) (pg_tup rfl (pgs_cons (pg_name (i := 4) sc.nd rfl (by first | exact .inl rfl | exact .inr rfl)) (pgs_cons (pg_name (i := 5) sc.nd rfl (by first | exact .inl rfl | exact .inr rfl)) pgs_nil))) (LSs.one (LS.ite (LT.cmp (op_neU hr.units) ok_ne (LO.s 5 (pv 5)) (LO.ofD LD.int) (nomark _)) (LSs.one (LS.app (pe_bm PySem.F.plainAttrs_list PySem.F.slot_list_append PySem.F.type_list_append mt_append (pv 1) (pa_cons (pD (LD.tup (LA.cons (LO.ofD (LD.var 2 (pv 2))) (LA.cons (LO.ofD (LD.var 4 (pv 4))) (LA.cons (LO.ofD (LD.bin op_fdivW ok_fdiv (LO.s 5 (pv 5)) (LO.ofD (LD.bin op_mulI ok_mul (LO.ofD (LD.ofF (LF.cal c_factorial hr hgd rfl (LA.cons (LO.ofD (LD.var 2 (pv 2))) LA.nil)))) (LO.ofD (LD.ofF (LF.cal c_factorial hr hgd rfl (LA.cons (LO.ofD (LD.var 4 (pv 4))) LA.nil)))))))) LA.nil))))) pa_nil)))) LSs.nil)))))
    (LSs.one (LS.ret (LF.ofD (LD.bt call_tuple_of ok_tuple rfl b_tuple (by decide +kernel) (LA.cons (LO.s 1 (pv 1)) LA.nil)))))))) hsp
abbrev st_plain : Stmt := top 13
theorem sc_plain : FnScope N_plain ["formula", "clock"] (defScope st_plain) := ⟨rfl, rfl, rfl, by decide +kernel, rfl, by decide +kernel, by decide +kernel⟩
theorem cal_plain {P : Program} {w : World} {K : PySem.W.Frag} {mg : Str → Option Value} {base : Heap} {k : Nat} (hnd : base.NoDigits) (D : Dn K mg "plain" st_plain ["formula", "clock"]) {S_made_plain : FSpec} (c_made_plain : Cal P w K mg base k "made_plain" ["rows", "clock"] S_made_plain) {S_rows_of : FSpec} (c_rows_of : Cal P w K mg base k "rows_of" ["formula"] S_rows_of) {S : FSpec}
    (len : ∀ args Q, S.sp args Q → args.length = 2) (hsp : ∀ args Q, S.sp args Q → ir_plain S_made_plain S_rows_of (endsOf args Q) (rho0 N_plain args)) : Cal P w K mg base (k + 1) "plain" ["formula", "clock"] S := by
  have sc := sc_plain
  exact def_cal D sc len (fun f cdv A outer s H E hr hgd =>
    (LSs.one (LS.ret (LF.cal c_made_plain hr hgd rfl (LA.cons (LO.ofD (LD.ofF (LF.cal c_rows_of hr hgd rfl (LA.cons (LO.ofD (LD.var 0 (pv 0))) LA.nil)))) (LA.cons (LO.ofD (LD.var 1 (pv 1))) LA.nil)))))) hsp
abbrev st_law_common_ae84 : Stmt := top 24
theorem sc_law_common_ae84 : FnScope N_law_common_ae84 ["one", "other"] (defScope st_law_common_ae84) := ⟨rfl, rfl, rfl, by decide +kernel, rfl, by decide +kernel, by decide +kernel⟩
theorem cal_law_common_ae84 {P : Program} {w : World} {K : PySem.W.Frag} {mg : Str → Option Value} {base : Heap} {k : Nat} (hnd : base.NoDigits) (D : Dn K mg "_law_common" st_law_common_ae84 ["one", "other"]) (b_int : mg "int" = none) {S : FSpec}
    (len : ∀ args Q, S.sp args Q → args.length = 2) (hsp : ∀ args Q, S.sp args Q → ir_law_common_ae84 (endsOf args Q) (rho0 N_law_common_ae84 args)) : Cal P w K mg base (k + 1) "_law_common" ["one", "other"] S := by
  have sc := sc_law_common_ae84
  exact def_cal D sc len (fun f cdv A outer s H E hr hgd =>
    (LSs.cons (LS.while PassesOwn.never (LT.cmp op_gt (ok_cI _) (LO.s 1 (pv 1)) (LO.ofD LD.int) (nomark _)) (LSs.one (LS.par (i := 0) (j := 1) rfl sc.nd rfl rfl (by decide) rfl rfl (LF.ofD (LD.var 1 (pv 1))) (LF.ofD (LD.bin op_mod ok_mod (LO.ofD (LD.bt call_int1 ok_int rfl b_int (by decide +kernel) (LA.cons (LO.s 0 (pv 0)) LA.nil))) (LO.s 1 (pv 1)))) rfl)))
    (LSs.one (LS.retV 0 (pv 0))))) hsp
abbrev st_law_falling_d92b : Stmt := top 25
theorem sc_law_falling_d92b : FnScope N_law_falling_d92b ["x", "many"] (defScope st_law_falling_d92b) := ⟨rfl, rfl, rfl, by decide +kernel, rfl, by decide +kernel, by decide +kernel⟩
theorem cal_law_falling_d92b {P : Program} {w : World} {K : PySem.W.Frag} {mg : Str → Option Value} {base : Heap} {k : Nat} (hnd : base.NoDigits) (D : Dn K mg "_law_falling" st_law_falling_d92b ["x", "many"]) (b_range : mg "range" = none) {S : FSpec}
    (len : ∀ args Q, S.sp args Q → args.length = 2) (hsp : ∀ args Q, S.sp args Q → ir_law_falling_d92b (endsOf args Q) (rho0 N_law_falling_d92b args)) : Cal P w K mg base (k + 1) "_law_falling" ["x", "many"] S := by
  have sc := sc_law_falling_d92b
  exact def_cal D sc len (fun f cdv A outer s H E hr hgd =>
    (LSs.cons (LS.asg (i := 2) sc.nd rfl (by first | exact .inl rfl | exact .inr rfl) (LF.ofD LD.int))
    (LSs.cons (LS.for (pt := (.nm 3)) PassesOwn.never rfl (LI.range1 rfl b_range (LA.cons (LO.s 1 (pv 1)) LA.nil)) (pg_name (i := 3) sc.nd rfl (by first | exact .inl rfl | exact .inr rfl)) (LSs.one (LS.asg (i := 2) sc.nd rfl (by first | exact .inl rfl | exact .inr rfl) (LF.ofD (LD.bin op_mulI ok_mul (LO.s 2 (pv 2)) (LO.ofD (LD.bin op_sub ok_sub (LO.s 0 (pv 0)) (LO.s 3 (pv 3)))))))))
    (LSs.one (LS.retV 2 (pv 2)))))) hsp
abbrev st_law_step_b26f : Stmt := top 26
theorem sc_law_step_b26f : FnScope N_law_step_b26f ["clock", "i", "j"] (defScope st_law_step_b26f) := ⟨rfl, rfl, rfl, by decide +kernel, rfl, by decide +kernel, by decide +kernel⟩
theorem cal_law_step_b26f {P : Program} {w : World} {K : PySem.W.Frag} {mg : Str → Option Value} {base : Heap} {k : Nat} (hnd : base.NoDigits) (D : Dn K mg "_law_step" st_law_step_b26f ["clock", "i", "j"]) {S_law_common_ae84 : FSpec} (c_law_common_ae84 : Cal P w K mg base k "_law_common" ["one", "other"] S_law_common_ae84) {S_law_falling_d92b : FSpec} (c_law_falling_d92b : Cal P w K mg base k "_law_falling" ["x", "many"] S_law_falling_d92b) {S : FSpec}
    (len : ∀ args Q, S.sp args Q → args.length = 3) (hsp : ∀ args Q, S.sp args Q → ir_law_step_b26f S_law_common_ae84 S_law_falling_d92b (endsOf args Q) (rho0 N_law_step_b26f args)) : Cal P w K mg base (k + 1) "_law_step" ["clock", "i", "j"] S := by
  have sc := sc_law_step_b26f
  exact def_cal D sc len (fun f cdv A outer s H E hr hgd =>
    (LSs.one (LS.ret (LF.ofD (LD.bin op_fdivW ok_fdiv (LO.s 0 (pv 0)) (LO.ofD (LD.ofF (LF.cal c_law_common_ae84 hr hgd rfl (LA.cons (LO.ofD (LD.var 0 (pv 0))) (LA.cons (LO.ofD (LD.bin op_mulI ok_mul (LO.ofD (LD.ofF (LF.cal c_law_falling_d92b hr hgd rfl (LA.cons (LO.ofD (LD.var 1 (pv 1))) (LA.cons (LO.ofD (LD.var 1 (pv 1))) LA.nil))))) (LO.ofD (LD.ofF (LF.cal c_law_falling_d92b hr hgd rfl (LA.cons (LO.ofD (LD.var 2 (pv 2))) (LA.cons (LO.ofD (LD.var 2 (pv 2))) LA.nil))))))) LA.nil)))))))))) hsp
abbrev st_law_are_plain_606f : Stmt := top 29
theorem sc_law_are_plain_606f : FnScope N_law_are_plain_606f ["rows", "clock"] (defScope st_law_are_plain_606f) := ⟨rfl, rfl, rfl, by decide +kernel, rfl, by decide +kernel, by decide +kernel⟩
theorem cal_law_are_plain_606f {P : Program} {w : World} {K : PySem.W.Frag} {mg : Str → Option Value} {base : Heap} {k : Nat} (hnd : base.NoDigits) (D : Dn K mg "_law_are_plain" st_law_are_plain_606f ["rows", "clock"]) {S_law_step_b26f : FSpec} (c_law_step_b26f : Cal P w K mg base k "_law_step" ["clock", "i", "j"] S_law_step_b26f) (b_isinstance : mg "isinstance" = none) (b_tuple : mg "tuple" = none) (b_len : mg "len" = none) (b_bool : mg "bool" = none) (b_int : mg "int" = none) (b_set : mg "set" = none) (b_sorted : mg "sorted" = none) {S : FSpec}
    (len : ∀ args Q, S.sp args Q → args.length = 2) (hsp : ∀ args Q, S.sp args Q → ir_law_are_plain_606f S_law_step_b26f (endsOf args Q) (rho0 N_law_are_plain_606f args)) : Cal P w K mg base (k + 1) "_law_are_plain" ["rows", "clock"] S := by
  have sc := sc_law_are_plain_606f
  exact def_cal D sc len (fun f cdv A outer s H E hr hgd =>
    (LSs.cons (LS.ite (LT.not (LT.val (LD.isi "tuple" (by simp) rfl b_isinstance rfl b_tuple (by decide +kernel) (LO.s 0 (pv 0))))) (LSs.one (LS.ret (LF.ofD LD.bl))) LSs.nil)
    (LSs.cons (LS.for (pt := (.nm 2)) PassesOwn.never rfl (LI.seq (LD.var 0 (pv 0))) (pg_name (i := 2) sc.nd rfl (by first | exact .inl rfl | exact .inr rfl)) (LSs.cons (LS.ite (LT.w (LW.or (LT.not (LT.val (LD.isi "tuple" (by simp) rfl b_isinstance rfl b_tuple (by decide +kernel) (LO.s 2 (pv 2))))) (LW.or1 (LT.cmp (op_neU hr.units) ok_ne (LO.ofD (LD.bi call_lenU ok_len rfl b_len (by decide +kernel) (LA.cons (LO.s 2 (pv 2)) LA.nil))) (LO.ofD LD.int) (nomark _))))) (LSs.one (LS.ret (LF.ofD LD.bl))) LSs.nil)
    (LSs.cons (LS.ite (LT.cmp (op_neU hr.units) ok_ne (LO.ofD (LD.ofF (LF.lc (pt := (.nm 4)) (vs := [4]) rfl sc.nd (LI.own 2 (pv 2)) (blk_mk (N := N_law_are_plain_606f) (own := [("one", 4)]) [] (by decide +kernel) trivial) rfl (by decide) (fun _ _ _ _ _ => (pg_name (i := 4) sc.nd rfl (by first | exact .inl rfl | exact .inr rfl))) (fun _ _ _ _ _ => pts_one (pT (LT.w (LW.or (LT.not (LT.val (LD.isi "int" (by simp) rfl b_isinstance rfl b_int (by decide +kernel) (LO.s 4 (pv 4))))) (LW.or1 (LT.val (LD.isi "bool" (by simp) rfl b_isinstance rfl b_bool (by decide +kernel) (LO.s 4 (pv 4))))))))) (fun _ _ _ _ _ => LD.int)))) (LO.ofD (LD.ofF (LF.lst LA.nil))) (nomark _)) (LSs.one (LS.ret (LF.ofD LD.bl))) LSs.nil)
    (LSs.one (LS.ite (LT.w (LW.or (LT.cmp op_lt (ok_cI _) (LO.ofD (LD.ix (LO.s 2 (pv 2)) (LO.ofD LD.int) (fun _ _ => rfl))) (LO.ofD LD.int) (nomark _)) (LW.or (LT.cmp op_lt (ok_cI _) (LO.ofD (LD.ix (LO.s 2 (pv 2)) (LO.ofD LD.int) (fun _ _ => rfl))) (LO.ofD LD.int) (nomark _)) (LW.or (LT.cmp op_gt (ok_cI _) (LO.ofD (LD.bin op_addD ok_add (LO.ofD (LD.ix (LO.s 2 (pv 2)) (LO.ofD LD.int) (fun _ _ => rfl))) (LO.ofD (LD.ix (LO.s 2 (pv 2)) (LO.ofD LD.int) (fun _ _ => rfl))))) (LO.ofD LD.int) (nomark _)) (LW.or1 (LT.not (LT.chain op_le op_lt (LO.ofD LD.int) (LO.ofD (LD.ix (LO.s 2 (pv 2)) (LO.ofD LD.int) (fun _ _ => rfl))) (LO.ofD (LD.ofF (LF.cal c_law_step_b26f hr hgd rfl (LA.cons (LO.ofD (LD.var 1 (pv 1))) (LA.cons (LO.ofD (LD.ix (LO.s 2 (pv 2)) (LO.ofD LD.int) (fun _ _ => rfl))) (LA.cons (LO.ofD (LD.ix (LO.s 2 (pv 2)) (LO.ofD LD.int) (fun _ _ => rfl))) LA.nil))))))))))))) (LSs.one (LS.ret (LF.ofD LD.bl))) LSs.nil)))))
    (LSs.cons (LS.lc (i := 3) (pt := (.nm 2)) (vs := [2]) rfl sc.nd rfl rfl (sw_true rfl rfl rfl (by decide +kernel)) (LI.own 0 (pv 0)) (blk_mk (N := N_law_are_plain_606f) (own := [("row", 2)]) [] (by decide +kernel) trivial) rfl (by decide) (fun _ _ _ _ _ => (pg_name (i := 2) sc.nd rfl (by first | exact .inl rfl | exact .inr rfl))) (fun _ _ _ _ _ => LT.yes) (fun _ _ _ _ _ => (LD.sl (LO.s 2 (pv 2)) LP.none (LP.some (LO.ofD LD.int)))))
    (LSs.one (LS.ret (LF.ofD (LD.and (LD.cmp (op_eqU hr.units) ok_eq (LO.s 3 (pv 3)) (LO.ofD (LD.bi cr_sortQ ok_sortQ rfl b_sorted (by decide +kernel) (LA.cons (LO.s 3 (pv 3)) LA.nil))) (nomark _)) (LD.one (LD.cmp (op_eqU hr.units) ok_eq (LO.ofD (LD.lenSetP hr.units rfl rfl b_len rfl b_set (LA.cons (LO.s 3 (pv 3)) LA.nil))) (LO.ofD (LD.bi call_lenU ok_len rfl b_len (by decide +kernel) (LA.cons (LO.s 3 (pv 3)) LA.nil))) (nomark _))))))))))) hsp
abbrev st_law_triangle_2d73 : Stmt := top 27
theorem sc_law_triangle_2d73 : FnScope N_law_triangle_2d73 [] (defScope st_law_triangle_2d73) := ⟨rfl, rfl, rfl, by decide +kernel, rfl, by decide +kernel, by decide +kernel⟩
theorem cal_law_triangle_2d73 {P : Program} {w : World} {K : PySem.W.Frag} {mg : Str → Option Value} {base : Heap} {k : Nat} (hnd : base.NoDigits) (D : Dn K mg "_law_triangle" st_law_triangle_2d73 []) (b_range : mg "range" = none) {S : FSpec}
    (len : ∀ args Q, S.sp args Q → args.length = 0) (hsp : ∀ args Q, S.sp args Q → ir_law_triangle_2d73 (endsOf args Q) (rho0 N_law_triangle_2d73 args)) : Cal P w K mg base (k + 1) "_law_triangle" [] S := by
  have sc := sc_law_triangle_2d73
  exact def_cal D sc len (fun f cdv A outer s H E hr hgd =>
    (LSs.cons (LS.asg (i := 0) sc.nd rfl (by first | exact .inl rfl | exact .inr rfl) (LF.lst LA.nil))
    (LSs.cons (LS.for (pt := (.nm 1)) PassesOwn.never rfl (LI.range1 rfl b_range (LA.cons (LO.ofD LD.int) LA.nil)) (pg_name (i := 1) sc.nd rfl (by first | exact .inl rfl | exact .inr rfl)) (LSs.one (LS.ext (pe_bm PySem.F.plainAttrs_list PySem.F.slot_list_extend PySem.F.type_list_extend mt_extD (pv 0) (pa_cons (pO (LO.ofD (LD.ofF (LF.lc (pt := (.nm 2)) (vs := [2]) rfl sc.nd (LI.range1 rfl b_range (LA.cons (LO.ofD (LD.bin op_addD ok_add (LO.s 1 (pv 1)) (LO.ofD LD.int))) LA.nil)) (blk_mk (N := N_law_triangle_2d73) (own := [("x", 2)]) ["far"] (by decide +kernel) ⟨by first | exact .inl rfl | exact .inr rfl, trivial⟩) rfl (by decide) (fun _ _ _ _ _ => (pg_name (i := 2) sc.nd rfl (by first | exact .inl rfl | exact .inr rfl))) (fun _ _ _ _ _ => LT.yes) (fun _ _ _ _ _ => (LD.tup (LA.cons (LO.ofD (LD.var 2 (pv 2))) (LA.cons (LO.ofD (LD.bin op_sub ok_sub (LO.s 1 (pv 1)) (LO.s 2 (pv 2)))) LA.nil)))))))) pa_nil)))))
    (LSs.one (LS.retV 0 (pv 0)))))) hsp
abbrev st_law_by_rows_b9e4 : Stmt := top 28
theorem sc_law_by_rows_b9e4 : FnScope N_law_by_rows_b9e4 ["rows", "x", "y"] (defScope st_law_by_rows_b9e4) := ⟨rfl, rfl, rfl, by decide +kernel, rfl, by decide +kernel, by decide +kernel⟩
theorem cal_law_by_rows_b9e4 {P : Program} {w : World} {K : PySem.W.Frag} {mg : Str → Option Value} {base : Heap} {k : Nat} (hnd : base.NoDigits) (D : Dn K mg "_law_by_rows" st_law_by_rows_b9e4 ["rows", "x", "y"]) {S_law_falling_d92b : FSpec} (c_law_falling_d92b : Cal P w K mg base k "_law_falling" ["x", "many"] S_law_falling_d92b) (b_sum : mg "sum" = none) {S : FSpec}
    (len : ∀ args Q, S.sp args Q → args.length = 3) (hsp : ∀ args Q, S.sp args Q → ir_law_by_rows_b9e4 S_law_falling_d92b (endsOf args Q) (rho0 N_law_by_rows_b9e4 args)) : Cal P w K mg base (k + 1) "_law_by_rows" ["rows", "x", "y"] S := by
  have sc := sc_law_by_rows_b9e4
  exact def_cal D sc len (fun f cdv A outer s H E hr hgd =>
    (LSs.one (LS.ret (LF.ofD (LD.bi (cr_sum rfl) ok_sum rfl b_sum (by decide +kernel) (LA.cons (LO.ofD (LD.ofF (LF.lc (pt := (.tp [3, 4, 5])) (vs := [3, 4, 5]) rfl sc.nd (LI.own 0 (pv 0)) (blk_mk (N := N_law_by_rows_b9e4) (own := [("i", 3), ("j", 4), ("c", 5)]) ["x", "y"] (by decide +kernel) ⟨by first | exact .inl rfl | exact .inr rfl, by first | exact .inl rfl | exact .inr rfl, trivial⟩) rfl (by decide) (fun _ _ _ _ _ => (pg_tup rfl (pgs_cons (pg_name (i := 3) sc.nd rfl (by first | exact .inl rfl | exact .inr rfl)) (pgs_cons (pg_name (i := 4) sc.nd rfl (by first | exact .inl rfl | exact .inr rfl)) (pgs_cons (pg_name (i := 5) sc.nd rfl (by first | exact .inl rfl | exact .inr rfl)) pgs_nil))))) (fun _ _ _ _ _ => LT.yes) (fun _ _ _ _ _ => (LD.bin op_mulI ok_mul (LO.ofD (LD.bin op_mulI ok_mul (LO.s 5 (pv 5)) (LO.ofD (LD.ofF (LF.cal c_law_falling_d92b hr hgd rfl (LA.cons (LO.ofD (LD.var 1 (pv 1))) (LA.cons (LO.ofD (LD.var 3 (pv 3))) LA.nil))))))) (LO.ofD (LD.ofF (LF.cal c_law_falling_d92b hr hgd rfl (LA.cons (LO.ofD (LD.var 2 (pv 2))) (LA.cons (LO.ofD (LD.var 4 (pv 4))) LA.nil)))))))))) LA.nil)))))) hsp
abbrev st_law_worth_98b9 : Stmt := top 23
theorem sc_law_worth_98b9 : FnScope N_law_worth_98b9 ["formula", "x", "y"] (defScope st_law_worth_98b9) := ⟨rfl, rfl, rfl, by decide +kernel, rfl, by decide +kernel, by decide +kernel⟩
theorem cal_law_worth_98b9 {P : Program} {w : World} {K : PySem.W.Frag} {mg : Str → Option Value} {base : Heap} {k : Nat} (hnd : base.NoDigits) (D : Dn K mg "_law_worth" st_law_worth_98b9 ["formula", "x", "y"]) {S_law_worth_98b9 : FSpec} (c_law_worth_98b9 : Cal P w K mg base k "_law_worth" ["formula", "x", "y"] S_law_worth_98b9) (b_isinstance : mg "isinstance" = none) (b_str : mg "str" = none) (b_int : mg "int" = none) (b_range : mg "range" = none) {S : FSpec}
    (len : ∀ args Q, S.sp args Q → args.length = 3) (hsp : ∀ args Q, S.sp args Q → ir_law_worth_98b9 S_law_worth_98b9 (endsOf args Q) (rho0 N_law_worth_98b9 args)) : Cal P w K mg base (k + 1) "_law_worth" ["formula", "x", "y"] S := by
  have sc := sc_law_worth_98b9
  exact def_cal D sc len (fun f cdv A outer s H E hr hgd =>
    (LSs.cons (LS.ite (LT.val (LD.isi "str" (by simp) rfl b_isinstance rfl b_str (by decide +kernel) (LO.s 0 (pv 0)))) (LSs.one (LS.ret (LF.ofD (LD.ite (LT.cmp (op_eqU hr.units) ok_eq (LO.s 0 (pv 0)) (LO.ofD LD.str) (nomark _)) (LD.var 1 (pv 1)) (LD.var 2 (pv 2)))))) LSs.nil)
    (LSs.cons (LS.ite (LT.val (LD.isi "int" (by simp) rfl b_isinstance rfl b_int (by decide +kernel) (LO.s 0 (pv 0)))) (LSs.one (LS.retV 0 (pv 0))) LSs.nil)
    (LSs.cons (LS.par (i := 3) (j := 4) rfl sc.nd rfl rfl (by decide) rfl rfl (LF.cal c_law_worth_98b9 hr hgd rfl (LA.cons (LO.ofD (LD.ix (LO.s 0 (pv 0)) (LO.ofD LD.int) (fun _ _ => rfl))) (LA.cons (LO.ofD (LD.var 1 (pv 1))) (LA.cons (LO.ofD (LD.var 2 (pv 2))) LA.nil)))) (LF.ofD LD.int) rfl)
    (LSs.cons (LS.ite (LT.cmp (op_eqU hr.units) ok_eq (LO.ofD (LD.ix (LO.s 0 (pv 0)) (LO.ofD LD.int) (fun _ _ => rfl))) (LO.ofD LD.str) (nomark _)) (LSs.cons (LS.for (pt := (.nm 5)) PassesOwn.never rfl (LI.range1 rfl b_range (LA.cons (LO.ofD (LD.ix (LO.s 0 (pv 0)) (LO.ofD LD.int) (fun _ _ => rfl))) LA.nil)) (pg_name (i := 5) sc.nd rfl (by first | exact .inl rfl | exact .inr rfl)) (LSs.one (LS.asg (i := 4) sc.nd rfl (by first | exact .inl rfl | exact .inr rfl) (LF.ofD (LD.bin op_mulI ok_mul (LO.s 4 (pv 4)) (LO.s 3 (pv 3)))))))
    (LSs.one (LS.retV 4 (pv 4)))) LSs.nil)
    (LSs.cons (LS.asg (i := 6) sc.nd rfl (by first | exact .inl rfl | exact .inr rfl) (LF.cal c_law_worth_98b9 hr hgd rfl (LA.cons (LO.ofD (LD.ix (LO.s 0 (pv 0)) (LO.ofD LD.int) (fun _ _ => rfl))) (LA.cons (LO.ofD (LD.var 1 (pv 1))) (LA.cons (LO.ofD (LD.var 2 (pv 2))) LA.nil)))))
    (LSs.cons (LS.ite (LT.cmp (op_eqU hr.units) ok_eq (LO.ofD (LD.ix (LO.s 0 (pv 0)) (LO.ofD LD.int) (fun _ _ => rfl))) (LO.ofD LD.str) (nomark _)) (LSs.one (LS.ret (LF.ofD (LD.bin op_mulI ok_mul (LO.s 3 (pv 3)) (LO.s 6 (pv 6)))))) LSs.nil)
    (LSs.one (LS.ret (LF.ofD (LD.ite (LT.cmp (op_eqU hr.units) ok_eq (LO.ofD (LD.ix (LO.s 0 (pv 0)) (LO.ofD LD.int) (fun _ _ => rfl))) (LO.ofD LD.str) (nomark _)) (LD.bin op_addD ok_add (LO.s 3 (pv 3)) (LO.s 6 (pv 6))) (LD.bin op_sub ok_sub (LO.s 3 (pv 3)) (LO.s 6 (pv 6)))))))))))))) hsp
abbrev st_law_far_43d2 : Stmt := top 22
theorem sc_law_far_43d2 : FnScope N_law_far_43d2 ["deck"] (defScope st_law_far_43d2) := ⟨rfl, rfl, rfl, by decide +kernel, rfl, by decide +kernel, by decide +kernel⟩
theorem cal_law_far_43d2 {P : Program} {w : World} {K : PySem.W.Frag} {mg : Str → Option Value} {base : Heap} {k : Nat} (hnd : base.NoDigits) (D : Dn K mg "_law_far" st_law_far_43d2 ["deck"]) {S_law_draw_a51a : FSpec} (c_law_draw_a51a : Cal P w K mg base k "_law_draw" ["deck", "many"] S_law_draw_a51a) {S_law_one_90da : FSpec} (c_law_one_90da : Cal P w K mg base k "_law_one" ["deck", "items"] S_law_one_90da) {S : FSpec}
    (len : ∀ args Q, S.sp args Q → args.length = 1) (hsp : ∀ args Q, S.sp args Q → ir_law_far_43d2 S_law_draw_a51a S_law_one_90da (endsOf args Q) (rho0 N_law_far_43d2 args)) : Cal P w K mg base (k + 1) "_law_far" ["deck"] S := by
  have sc := sc_law_far_43d2
  exact def_cal D sc len (fun f cdv A outer s H E hr hgd =>
    (LSs.cons (LS.asg (i := 1) sc.nd rfl (by first | exact .inl rfl | exact .inr rfl) (LF.ofD (LD.bin op_addD ok_add (LO.ofD (LD.bin op_mulI ok_mul (LO.ofD (LD.ofF (LF.cal c_law_draw_a51a hr hgd rfl (LA.cons (LO.s 0 (pv 0)) (LA.cons (LO.ofD (LD.bin op_powW ok_pow (LO.ofD LD.int) (LO.ofD LD.int))) LA.nil))))) (LO.ofD (LD.bin op_powW ok_pow (LO.ofD LD.int) (LO.ofD LD.int))))) (LO.ofD (LD.ofF (LF.cal c_law_draw_a51a hr hgd rfl (LA.cons (LO.s 0 (pv 0)) (LA.cons (LO.ofD (LD.bin op_powW ok_pow (LO.ofD LD.int) (LO.ofD LD.int))) LA.nil))))))))
    (LSs.one (LS.ret (LF.cal c_law_one_90da hr hgd rfl (LA.cons (LO.s 0 (pv 0)) (LA.cons (LO.ofD (LD.ofF (LF.lst (LA.cons (LO.ofD (LD.ofF (LF.cal c_law_draw_a51a hr hgd rfl (LA.cons (LO.s 0 (pv 0)) (LA.cons (LO.ofD LD.int) LA.nil))))) (LA.cons (LO.ofD (LD.bin op_sub ok_sub (LO.ofD (LD.ofF (LF.cal c_law_draw_a51a hr hgd rfl (LA.cons (LO.s 0 (pv 0)) (LA.cons (LO.ofD LD.int) LA.nil))))) (LO.ofD LD.int))) (LA.cons (LO.ofD (LD.var 1 (pv 1))) (LA.cons (LO.ofD (LD.neg (LO.s 1 (pv 1)))) LA.nil))))))) LA.nil))))))) hsp
abbrev st_neighbours : Stmt := top 8
theorem sc_neighbours : FnScope N_neighbours ["x", "many"] (defScope st_neighbours) := ⟨rfl, rfl, rfl, by decide +kernel, rfl, by decide +kernel, by decide +kernel⟩
theorem cal_neighbours {P : Program} {w : World} {K : PySem.W.Frag} {mg : Str → Option Value} {base : Heap} {k : Nat} (hnd : base.NoDigits) (D : Dn K mg "neighbours" st_neighbours ["x", "many"]) (b_range : mg "range" = none) {S : FSpec}
    (len : ∀ args Q, S.sp args Q → args.length = 2) (hsp : ∀ args Q, S.sp args Q → ir_neighbours (endsOf args Q) (rho0 N_neighbours args)) : Cal P w K mg base (k + 1) "neighbours" ["x", "many"] S := by
  have sc := sc_neighbours
  exact def_cal D sc len (fun f cdv A outer s H E hr hgd =>
    (LSs.cons (LS.asg (i := 2) sc.nd rfl (by first | exact .inl rfl | exact .inr rfl) (LF.ofD LD.int))
    (LSs.cons (LS.for (pt := (.nm 3)) PassesOwn.never rfl (LI.range1 rfl b_range (LA.cons (LO.s 1 (pv 1)) LA.nil)) (pg_name (i := 3) sc.nd rfl (by first | exact .inl rfl | exact .inr rfl)) (LSs.one (LS.asg (i := 2) sc.nd rfl (by first | exact .inl rfl | exact .inr rfl) (LF.ofD (LD.bin op_mulI ok_mul (LO.s 2 (pv 2)) (LO.ofD (LD.bin op_sub ok_sub (LO.s 0 (pv 0)) (LO.s 3 (pv 3)))))))))
    (LSs.one (LS.retV 2 (pv 2)))))) hsp
abbrev st_row_hour : Stmt := top 14
theorem sc_row_hour : FnScope N_row_hour ["rows", "clock", "x", "y"] (defScope st_row_hour) := ⟨rfl, rfl, rfl, by decide +kernel, rfl, by decide +kernel, by decide +kernel⟩
theorem cal_row_hour {P : Program} {w : World} {K : PySem.W.Frag} {mg : Str → Option Value} {base : Heap} {k : Nat} (hnd : base.NoDigits) (D : Dn K mg "row_hour" st_row_hour ["rows", "clock", "x", "y"]) {S_neighbours : FSpec} (c_neighbours : Cal P w K mg base k "neighbours" ["x", "many"] S_neighbours) (b_sum : mg "sum" = none) {S : FSpec}
    (len : ∀ args Q, S.sp args Q → args.length = 4) (hsp : ∀ args Q, S.sp args Q → ir_row_hour S_neighbours (endsOf args Q) (rho0 N_row_hour args)) : Cal P w K mg base (k + 1) "row_hour" ["rows", "clock", "x", "y"] S := by
  have sc := sc_row_hour
  exact def_cal D sc len (fun f cdv A outer s H E hr hgd =>
    (LSs.one (LS.ret (LF.ofD (LD.bin op_mod ok_mod (LO.ofD (LD.bi (cr_sum rfl) ok_sum rfl b_sum (by decide +kernel) (LA.cons (LO.ofD (LD.ofF (LF.lc (pt := (.tp [4, 5, 6])) (vs := [4, 5, 6]) rfl sc.nd (LI.own 0 (pv 0)) (blk_mk (N := N_row_hour) (own := [("i", 4), ("j", 5), ("c", 6)]) ["x", "y"] (by decide +kernel) ⟨by first | exact .inl rfl | exact .inr rfl, by first | exact .inl rfl | exact .inr rfl, trivial⟩) rfl (by decide) (fun _ _ _ _ _ => (pg_tup rfl (pgs_cons (pg_name (i := 4) sc.nd rfl (by first | exact .inl rfl | exact .inr rfl)) (pgs_cons (pg_name (i := 5) sc.nd rfl (by first | exact .inl rfl | exact .inr rfl)) (pgs_cons (pg_name (i := 6) sc.nd rfl (by first | exact .inl rfl | exact .inr rfl)) pgs_nil))))) (fun _ _ _ _ _ => LT.yes) (fun _ _ _ _ _ => (LD.bin op_mulI ok_mul (LO.ofD (LD.bin op_mulI ok_mul (LO.s 6 (pv 6)) (LO.ofD (LD.ofF (LF.cal c_neighbours hr hgd rfl (LA.cons (LO.ofD (LD.var 2 (pv 2))) (LA.cons (LO.ofD (LD.var 4 (pv 4))) LA.nil))))))) (LO.ofD (LD.ofF (LF.cal c_neighbours hr hgd rfl (LA.cons (LO.ofD (LD.var 3 (pv 3))) (LA.cons (LO.ofD (LD.var 5 (pv 5))) LA.nil)))))))))) LA.nil))) (LO.s 1 (pv 1))))))) hsp
abbrev st_law : Stmt := top 30
theorem sc_law : FnScope N_law ["script"] (defScope st_law) := ⟨rfl, rfl, rfl, by decide +kernel, rfl, by decide +kernel, by decide +kernel⟩
theorem fn_law {P : Program} {w : World} {K : PySem.W.Frag} {mg : Str → Option Value} {base : Heap} {k : Nat} (hnd : base.NoDigits) {fa : Addr} {fd : FuncData} (Fn : Fun K "law" "law" st_law fa fd) {S_law_deck_91e6 : FSpec} (c_law_deck_91e6 : Cal P w K mg base k "_law_deck" ["script"] S_law_deck_91e6) {S_law_formula_6b2b : FSpec} (c_law_formula_6b2b : Cal P w K mg base k "_law_formula" ["deck", "letters", "room", "deep"] S_law_formula_6b2b) {S_law_draw_a51a : FSpec} (c_law_draw_a51a : Cal P w K mg base k "_law_draw" ["deck", "many"] S_law_draw_a51a) {S_law_one_90da : FSpec} (c_law_one_90da : Cal P w K mg base k "_law_one" ["deck", "items"] S_law_one_90da) {S_law_clock_4333 : FSpec} (c_law_clock_4333 : Cal P w K mg base k "_law_clock" ["deck"] S_law_clock_4333) {S_plain : FSpec} (c_plain : Cal P w K mg base k "plain" ["formula", "clock"] S_plain) {S_made_plain : FSpec} (c_made_plain : Cal P w K mg base k "made_plain" ["rows", "clock"] S_made_plain) {S_rows_of : FSpec} (c_rows_of : Cal P w K mg base k "rows_of" ["formula"] S_rows_of) {S_law_are_plain_606f : FSpec} (c_law_are_plain_606f : Cal P w K mg base k "_law_are_plain" ["rows", "clock"] S_law_are_plain_606f) {S_law_triangle_2d73 : FSpec} (c_law_triangle_2d73 : Cal P w K mg base k "_law_triangle" [] S_law_triangle_2d73) {S_law_by_rows_b9e4 : FSpec} (c_law_by_rows_b9e4 : Cal P w K mg base k "_law_by_rows" ["rows", "x", "y"] S_law_by_rows_b9e4) {S_law_worth_98b9 : FSpec} (c_law_worth_98b9 : Cal P w K mg base k "_law_worth" ["formula", "x", "y"] S_law_worth_98b9) {S_law_far_43d2 : FSpec} (c_law_far_43d2 : Cal P w K mg base k "_law_far" ["deck"] S_law_far_43d2) {S_row_hour : FSpec} (c_row_hour : Cal P w K mg base k "row_hour" ["rows", "clock", "x", "y"] S_row_hour) (b_range : mg "range" = none) (b_repr : mg "repr" = none) {S : FSpec}
    (len : ∀ args Q, S.sp args Q → args.length = 1) (hsp : ∀ args Q, S.sp args Q → ir_law S_law_deck_91e6 S_law_formula_6b2b S_law_draw_a51a S_law_one_90da S_law_clock_4333 S_plain S_made_plain S_rows_of S_law_are_plain_606f S_law_triangle_2d73 S_law_by_rows_b9e4 S_law_worth_98b9 S_law_far_43d2 S_row_hour (endsOf args Q) (rho0 N_law args)) : FnG P w K mg base CX0 (k + 1) fa fd ["script"] (liftC K S) := by
  have sc := sc_law
  exact def_ok Fn sc len (fun cdv A outer s H E hr hgd =>
    (LSs.cons (LS.asg (i := 1) sc.nd rfl (by first | exact .inl rfl | exact .inr rfl) (LF.cal c_law_deck_91e6 hr hgd rfl (LA.cons (LO.s 0 (pv 0)) LA.nil)))
    (LSs.cons (LS.for (pt := (.nm 2)) PassesOwn.never rfl (LI.range1 rfl b_range (LA.cons (LO.ofD LD.int) LA.nil)) (pg_name (i := 2) sc.nd rfl (by first | exact .inl rfl | exact .inr rfl)) (LSs.cons (LS.asg (i := 3) sc.nd rfl (by first | exact .inl rfl | exact .inr rfl) (LF.cal c_law_formula_6b2b hr hgd rfl (LA.cons (LO.s 1 (pv 1)) (LA.cons (LO.ofD (LD.ofF (LF.cal c_law_one_90da hr hgd rfl (LA.cons (LO.s 1 (pv 1)) (LA.cons (LO.ofD (LD.ofF (LF.lst (LA.cons (LO.ofD (LD.ofF (LF.lst (LA.cons (LO.ofD LD.str) LA.nil)))) (LA.cons (LO.ofD (LD.ofF (LF.lst (LA.cons (LO.ofD LD.str) (LA.cons (LO.ofD LD.str) LA.nil))))) LA.nil))))) LA.nil))))) (LA.cons (LO.ofD LD.int) (LA.cons (LO.ofD (LD.bin op_addD ok_add (LO.ofD LD.int) (LO.ofD (LD.ofF (LF.cal c_law_draw_a51a hr hgd rfl (LA.cons (LO.s 1 (pv 1)) (LA.cons (LO.ofD LD.int) LA.nil))))))) LA.nil))))))
    (LSs.cons (LS.asg (i := 4) sc.nd rfl (by first | exact .inl rfl | exact .inr rfl) (LF.cal c_law_clock_4333 hr hgd rfl (LA.cons (LO.s 1 (pv 1)) LA.nil)))
    (LSs.cons (LS.asg (i := 5) sc.nd rfl (by first | exact .inl rfl | exact .inr rfl) (LF.cal c_plain hr hgd rfl (LA.cons (LO.ofD (LD.var 3 (pv 3))) (LA.cons (LO.ofD (LD.var 4 (pv 4))) LA.nil))))
    (LSs.cons (LS.ite (LT.cmp (op_neU hr.units) ok_ne (LO.ofD (LD.bi (call_repr hr hgd hnd) ok_repr rfl b_repr (by decide +kernel) (LA.cons (LO.ofD (LD.ofF (LF.cal c_made_plain hr hgd rfl (LA.cons (LO.ofD (LD.ofF (LF.cal c_rows_of hr hgd rfl (LA.cons (LO.ofD (LD.var 3 (pv 3))) LA.nil)))) (LA.cons (LO.ofD (LD.var 4 (pv 4))) LA.nil))))) LA.nil))) (LO.ofD (LD.bi (call_repr hr hgd hnd) ok_repr rfl b_repr (by decide +kernel) (LA.cons (LO.s 5 (pv 5)) LA.nil))) (nomark _)) (LSs.one (LS.ret (LF.ofD LD.bl))) LSs.nil)
    (LSs.cons (LS.ite (LT.w (LW.or (LT.not (LT.val (LD.ofF (LF.cal c_law_are_plain_606f hr hgd rfl (LA.cons (LO.ofD (LD.var 5 (pv 5))) (LA.cons (LO.ofD (LD.var 4 (pv 4))) LA.nil)))))) (LW.or1 (LT.cmp (op_neU hr.units) ok_ne (LO.ofD (LD.bi (call_repr hr hgd hnd) ok_repr rfl b_repr (by decide +kernel) (LA.cons (LO.ofD (LD.ofF (LF.cal c_plain hr hgd rfl (LA.cons (LO.ofD (LD.var 3 (pv 3))) (LA.cons (LO.ofD (LD.var 4 (pv 4))) LA.nil))))) LA.nil))) (LO.ofD (LD.bi (call_repr hr hgd hnd) ok_repr rfl b_repr (by decide +kernel) (LA.cons (LO.s 5 (pv 5)) LA.nil))) (nomark _))))) (LSs.one (LS.ret (LF.ofD LD.bl))) LSs.nil)
    (LSs.cons (LS.for (pt := (.tp [6, 7])) PassesOwn.never rfl (LI.seq (LD.ofF (LF.cal0 c_law_triangle_2d73 hr hgd rfl))) (pg_tup rfl (pgs_cons (pg_name (i := 6) sc.nd rfl (by first | exact .inl rfl | exact .inr rfl)) (pgs_cons (pg_name (i := 7) sc.nd rfl (by first | exact .inl rfl | exact .inr rfl)) pgs_nil))) (LSs.one (LS.ite (LT.cmp (op_neU hr.units) ok_ne (LO.ofD (LD.bin op_mod ok_mod (LO.ofD (LD.ofF (LF.cal c_law_by_rows_b9e4 hr hgd rfl (LA.cons (LO.ofD (LD.var 5 (pv 5))) (LA.cons (LO.ofD (LD.var 6 (pv 6))) (LA.cons (LO.ofD (LD.var 7 (pv 7))) LA.nil)))))) (LO.s 4 (pv 4)))) (LO.ofD (LD.bin op_mod ok_mod (LO.ofD (LD.ofF (LF.cal c_law_worth_98b9 hr hgd rfl (LA.cons (LO.ofD (LD.var 3 (pv 3))) (LA.cons (LO.ofD (LD.var 6 (pv 6))) (LA.cons (LO.ofD (LD.var 7 (pv 7))) LA.nil)))))) (LO.s 4 (pv 4)))) (nomark _)) (LSs.one (LS.ret (LF.ofD LD.bl))) LSs.nil)))
    (LSs.cons (LS.par (i := 6) (j := 7) rfl sc.nd rfl rfl (by decide) rfl rfl (LF.cal c_law_far_43d2 hr hgd rfl (LA.cons (LO.s 1 (pv 1)) LA.nil)) (LF.cal c_law_far_43d2 hr hgd rfl (LA.cons (LO.s 1 (pv 1)) LA.nil)) rfl)
    (LSs.one (LS.ite (LT.cmp (op_neU hr.units) ok_ne (LO.ofD (LD.bi (call_repr hr hgd hnd) ok_repr rfl b_repr (by decide +kernel) (LA.cons (LO.ofD (LD.ofF (LF.cal c_row_hour hr hgd rfl (LA.cons (LO.ofD (LD.var 5 (pv 5))) (LA.cons (LO.ofD (LD.var 4 (pv 4))) (LA.cons (LO.ofD (LD.var 6 (pv 6))) (LA.cons (LO.ofD (LD.var 7 (pv 7))) LA.nil))))))) LA.nil))) (LO.ofD (LD.bi (call_repr hr hgd hnd) ok_repr rfl b_repr (by decide +kernel) (LA.cons (LO.ofD (LD.bin op_mod ok_mod (LO.ofD (LD.ofF (LF.cal c_law_worth_98b9 hr hgd rfl (LA.cons (LO.ofD (LD.var 3 (pv 3))) (LA.cons (LO.ofD (LD.var 6 (pv 6))) (LA.cons (LO.ofD (LD.var 7 (pv 7))) LA.nil)))))) (LO.s 4 (pv 4)))) LA.nil))) (nomark _)) (LSs.one (LS.ret (LF.ofD LD.bl))) LSs.nil))))))))))
    (LSs.one (LS.ret (LF.ofD LD.bl)))))) hsp
theorem all_mk {l : PySem.W.OpenLaw} {w : World} {K : PySem.W.Frag} {h : Heap} {mg : Str → Option Value} {fa f0 f1 f2 f3 f4 f5 f6 f7 f8 f9 f10 f11 f12 f13 f14 f15 f16 f17 f18 f19 f20 f21 f22 f23 f24 f25 f26 : Addr} (X : K.In h) (G : h.Ns mainGlobals mg) (hfa : mg "law" = some (.ref fa))
    {od0 an0 od1 an1 od2 an2 od3 an3 od4 an4 od5 an5 od6 an6 od7 an7 od8 an8 od9 an9 od10 an10 od11 an11 od12 an12 od13 an13 od14 an14 od15 an15 od16 an16 od17 an17 od18 an18 od19 an19 od20 an20 od21 an21 od22 an22 od23 an23 od24 an24 od25 an25 od26 an26 : Option Addr} {sl0 sl1 sl2 sl3 sl4 sl5 sl6 sl7 sl8 sl9 sl10 sl11 sl12 sl13 sl14 sl15 sl16 sl17 sl18 sl19 sl20 sl21 sl22 sl23 sl24 sl25 sl26 : Array (Option Value)} {oc0 kV0 dc0 pm0 cd0 ct0 oc1 kV1 dc1 pm1 cd1 ct1 oc2 kV2 dc2 pm2 cd2 ct2 oc3 kV3 dc3 pm3 cd3 ct3 oc4 kV4 dc4 pm4 cd4 ct4 oc5 kV5 dc5 pm5 cd5 ct5 oc6 kV6 dc6 pm6 cd6 ct6 oc7 kV7 dc7 pm7 cd7 ct7 oc8 kV8 dc8 pm8 cd8 ct8 oc9 kV9 dc9 pm9 cd9 ct9 oc10 kV10 dc10 pm10 cd10 ct10 oc11 kV11 dc11 pm11 cd11 ct11 oc12 kV12 dc12 pm12 cd12 ct12 oc13 kV13 dc13 pm13 cd13 ct13 oc14 kV14 dc14 pm14 cd14 ct14 oc15 kV15 dc15 pm15 cd15 ct15 oc16 kV16 dc16 pm16 cd16 ct16 oc17 kV17 dc17 pm17 cd17 ct17 oc18 kV18 dc18 pm18 cd18 ct18 oc19 kV19 dc19 pm19 cd19 ct19 oc20 kV20 dc20 pm20 cd20 ct20 oc21 kV21 dc21 pm21 cd21 ct21 oc22 kV22 dc22 pm22 cd22 ct22 oc23 kV23 dc23 pm23 cd23 ct23 oc24 kV24 dc24 pm24 cd24 ct24 oc25 kV25 dc25 pm25 cd25 ct25 oc26 kV26 dc26 pm26 cd26 ct26 : Value}
    (a0 : PySem.W.nsIn K mainGlobals "_law_deck" = some (some (.ref f0))) (l0 : K.lookup f0 = some ⟨oc0, od0, .func (PySem.W.fnOf "_law_deck" "_law_deck" (defArgs st_law_deck_91e6) (defBody st_law_deck_91e6) (defScope st_law_deck_91e6) .none kV0 dc0 pm0 an0 cd0 ct0), sl0⟩) (c0 : PySem.W.codeIn K cd0 "_law_deck" = true) (k0 : PySem.W.keepIn K (.ref f0) = true)
    (a1 : PySem.W.nsIn K mainGlobals "_law_draw" = some (some (.ref f1))) (l1 : K.lookup f1 = some ⟨oc1, od1, .func (PySem.W.fnOf "_law_draw" "_law_draw" (defArgs st_law_draw_a51a) (defBody st_law_draw_a51a) (defScope st_law_draw_a51a) .none kV1 dc1 pm1 an1 cd1 ct1), sl1⟩) (c1 : PySem.W.codeIn K cd1 "_law_draw" = true) (k1 : PySem.W.keepIn K (.ref f1) = true)
    (a2 : PySem.W.nsIn K mainGlobals "_law_one" = some (some (.ref f2))) (l2 : K.lookup f2 = some ⟨oc2, od2, .func (PySem.W.fnOf "_law_one" "_law_one" (defArgs st_law_one_90da) (defBody st_law_one_90da) (defScope st_law_one_90da) .none kV2 dc2 pm2 an2 cd2 ct2), sl2⟩) (c2 : PySem.W.codeIn K cd2 "_law_one" = true) (k2 : PySem.W.keepIn K (.ref f2) = true)
    (a3 : PySem.W.nsIn K mainGlobals "_law_leaf" = some (some (.ref f3))) (l3 : K.lookup f3 = some ⟨oc3, od3, .func (PySem.W.fnOf "_law_leaf" "_law_leaf" (defArgs st_law_leaf_a91b) (defBody st_law_leaf_a91b) (defScope st_law_leaf_a91b) .none kV3 dc3 pm3 an3 cd3 ct3), sl3⟩) (c3 : PySem.W.codeIn K cd3 "_law_leaf" = true) (k3 : PySem.W.keepIn K (.ref f3) = true)
    (a4 : PySem.W.nsIn K mainGlobals "_law_formula" = some (some (.ref f4))) (l4 : K.lookup f4 = some ⟨oc4, od4, .func (PySem.W.fnOf "_law_formula" "_law_formula" (defArgs st_law_formula_6b2b) (defBody st_law_formula_6b2b) (defScope st_law_formula_6b2b) .none kV4 dc4 pm4 an4 cd4 ct4), sl4⟩) (c4 : PySem.W.codeIn K cd4 "_law_formula" = true) (k4 : PySem.W.keepIn K (.ref f4) = true)
    (a5 : PySem.W.nsIn K mainGlobals "_law_clock" = some (some (.ref f5))) (l5 : K.lookup f5 = some ⟨oc5, od5, .func (PySem.W.fnOf "_law_clock" "_law_clock" (defArgs st_law_clock_4333) (defBody st_law_clock_4333) (defScope st_law_clock_4333) .none kV5 dc5 pm5 an5 cd5 ct5), sl5⟩) (c5 : PySem.W.codeIn K cd5 "_law_clock" = true) (k5 : PySem.W.keepIn K (.ref f5) = true)
    (a6 : PySem.W.nsIn K mainGlobals "common" = some (some (.ref f6))) (l6 : K.lookup f6 = some ⟨oc6, od6, .func (PySem.W.fnOf "common" "common" (defArgs st_common) (defBody st_common) (defScope st_common) .none kV6 dc6 pm6 an6 cd6 ct6), sl6⟩) (c6 : PySem.W.codeIn K cd6 "common" = true) (k6 : PySem.W.keepIn K (.ref f6) = true)
    (a7 : PySem.W.nsIn K mainGlobals "factorial" = some (some (.ref f7))) (l7 : K.lookup f7 = some ⟨oc7, od7, .func (PySem.W.fnOf "factorial" "factorial" (defArgs st_factorial) (defBody st_factorial) (defScope st_factorial) .none kV7 dc7 pm7 an7 cd7 ct7), sl7⟩) (c7 : PySem.W.codeIn K cd7 "factorial" = true) (k7 : PySem.W.keepIn K (.ref f7) = true)
    (a8 : PySem.W.nsIn K mainGlobals "step_of" = some (some (.ref f8))) (l8 : K.lookup f8 = some ⟨oc8, od8, .func (PySem.W.fnOf "step_of" "step_of" (defArgs st_step_of) (defBody st_step_of) (defScope st_step_of) .none kV8 dc8 pm8 an8 cd8 ct8), sl8⟩) (c8 : PySem.W.codeIn K cd8 "step_of" = true) (k8 : PySem.W.keepIn K (.ref f8) = true)
    (a9 : PySem.W.nsIn K mainGlobals "made_plain" = some (some (.ref f9))) (l9 : K.lookup f9 = some ⟨oc9, od9, .func (PySem.W.fnOf "made_plain" "made_plain" (defArgs st_made_plain) (defBody st_made_plain) (defScope st_made_plain) .none kV9 dc9 pm9 an9 cd9 ct9), sl9⟩) (c9 : PySem.W.codeIn K cd9 "made_plain" = true) (k9 : PySem.W.keepIn K (.ref f9) = true)
    (a10 : PySem.W.nsIn K mainGlobals "differences" = some (some (.ref f10))) (l10 : K.lookup f10 = some ⟨oc10, od10, .func (PySem.W.fnOf "differences" "differences" (defArgs st_differences) (defBody st_differences) (defScope st_differences) .none kV10 dc10 pm10 an10 cd10 ct10), sl10⟩) (c10 : PySem.W.codeIn K cd10 "differences" = true) (k10 : PySem.W.keepIn K (.ref f10) = true)
    (a11 : PySem.W.nsIn K mainGlobals "powered" = some (some (.ref f11))) (l11 : K.lookup f11 = some ⟨oc11, od11, .func (PySem.W.fnOf "powered" "powered" (defArgs st_powered) (defBody st_powered) (defScope st_powered) .none kV11 dc11 pm11 an11 cd11 ct11), sl11⟩) (c11 : PySem.W.codeIn K cd11 "powered" = true) (k11 : PySem.W.keepIn K (.ref f11) = true)
    (a12 : PySem.W.nsIn K mainGlobals "worth" = some (some (.ref f12))) (l12 : K.lookup f12 = some ⟨oc12, od12, .func (PySem.W.fnOf "worth" "worth" (defArgs st_worth) (defBody st_worth) (defScope st_worth) .none kV12 dc12 pm12 an12 cd12 ct12), sl12⟩) (c12 : PySem.W.codeIn K cd12 "worth" = true) (k12 : PySem.W.keepIn K (.ref f12) = true)
    (a13 : PySem.W.nsIn K mainGlobals "square" = some (some (.ref f13))) (l13 : K.lookup f13 = some ⟨oc13, od13, .func (PySem.W.fnOf "square" "square" (defArgs st_square) (defBody st_square) (defScope st_square) .none kV13 dc13 pm13 an13 cd13 ct13), sl13⟩) (c13 : PySem.W.codeIn K cd13 "square" = true) (k13 : PySem.W.keepIn K (.ref f13) = true)
    (a14 : PySem.W.nsIn K mainGlobals "rows_of" = some (some (.ref f14))) (l14 : K.lookup f14 = some ⟨oc14, od14, .func (PySem.W.fnOf "rows_of" "rows_of" (defArgs st_rows_of) (defBody st_rows_of) (defScope st_rows_of) .none kV14 dc14 pm14 an14 cd14 ct14), sl14⟩) (c14 : PySem.W.codeIn K cd14 "rows_of" = true) (k14 : PySem.W.keepIn K (.ref f14) = true)
    (a15 : PySem.W.nsIn K mainGlobals "plain" = some (some (.ref f15))) (l15 : K.lookup f15 = some ⟨oc15, od15, .func (PySem.W.fnOf "plain" "plain" (defArgs st_plain) (defBody st_plain) (defScope st_plain) .none kV15 dc15 pm15 an15 cd15 ct15), sl15⟩) (c15 : PySem.W.codeIn K cd15 "plain" = true) (k15 : PySem.W.keepIn K (.ref f15) = true)
    (a16 : PySem.W.nsIn K mainGlobals "_law_common" = some (some (.ref f16))) (l16 : K.lookup f16 = some ⟨oc16, od16, .func (PySem.W.fnOf "_law_common" "_law_common" (defArgs st_law_common_ae84) (defBody st_law_common_ae84) (defScope st_law_common_ae84) .none kV16 dc16 pm16 an16 cd16 ct16), sl16⟩) (c16 : PySem.W.codeIn K cd16 "_law_common" = true) (k16 : PySem.W.keepIn K (.ref f16) = true)
    (a17 : PySem.W.nsIn K mainGlobals "_law_falling" = some (some (.ref f17))) (l17 : K.lookup f17 = some ⟨oc17, od17, .func (PySem.W.fnOf "_law_falling" "_law_falling" (defArgs st_law_falling_d92b) (defBody st_law_falling_d92b) (defScope st_law_falling_d92b) .none kV17 dc17 pm17 an17 cd17 ct17), sl17⟩) (c17 : PySem.W.codeIn K cd17 "_law_falling" = true) (k17 : PySem.W.keepIn K (.ref f17) = true)
    (a18 : PySem.W.nsIn K mainGlobals "_law_step" = some (some (.ref f18))) (l18 : K.lookup f18 = some ⟨oc18, od18, .func (PySem.W.fnOf "_law_step" "_law_step" (defArgs st_law_step_b26f) (defBody st_law_step_b26f) (defScope st_law_step_b26f) .none kV18 dc18 pm18 an18 cd18 ct18), sl18⟩) (c18 : PySem.W.codeIn K cd18 "_law_step" = true) (k18 : PySem.W.keepIn K (.ref f18) = true)
    (a19 : PySem.W.nsIn K mainGlobals "_law_are_plain" = some (some (.ref f19))) (l19 : K.lookup f19 = some ⟨oc19, od19, .func (PySem.W.fnOf "_law_are_plain" "_law_are_plain" (defArgs st_law_are_plain_606f) (defBody st_law_are_plain_606f) (defScope st_law_are_plain_606f) .none kV19 dc19 pm19 an19 cd19 ct19), sl19⟩) (c19 : PySem.W.codeIn K cd19 "_law_are_plain" = true) (k19 : PySem.W.keepIn K (.ref f19) = true)
    (a20 : PySem.W.nsIn K mainGlobals "_law_triangle" = some (some (.ref f20))) (l20 : K.lookup f20 = some ⟨oc20, od20, .func (PySem.W.fnOf "_law_triangle" "_law_triangle" (defArgs st_law_triangle_2d73) (defBody st_law_triangle_2d73) (defScope st_law_triangle_2d73) .none kV20 dc20 pm20 an20 cd20 ct20), sl20⟩) (c20 : PySem.W.codeIn K cd20 "_law_triangle" = true) (k20 : PySem.W.keepIn K (.ref f20) = true)
    (a21 : PySem.W.nsIn K mainGlobals "_law_by_rows" = some (some (.ref f21))) (l21 : K.lookup f21 = some ⟨oc21, od21, .func (PySem.W.fnOf "_law_by_rows" "_law_by_rows" (defArgs st_law_by_rows_b9e4) (defBody st_law_by_rows_b9e4) (defScope st_law_by_rows_b9e4) .none kV21 dc21 pm21 an21 cd21 ct21), sl21⟩) (c21 : PySem.W.codeIn K cd21 "_law_by_rows" = true) (k21 : PySem.W.keepIn K (.ref f21) = true)
    (a22 : PySem.W.nsIn K mainGlobals "_law_worth" = some (some (.ref f22))) (l22 : K.lookup f22 = some ⟨oc22, od22, .func (PySem.W.fnOf "_law_worth" "_law_worth" (defArgs st_law_worth_98b9) (defBody st_law_worth_98b9) (defScope st_law_worth_98b9) .none kV22 dc22 pm22 an22 cd22 ct22), sl22⟩) (c22 : PySem.W.codeIn K cd22 "_law_worth" = true) (k22 : PySem.W.keepIn K (.ref f22) = true)
    (a23 : PySem.W.nsIn K mainGlobals "_law_far" = some (some (.ref f23))) (l23 : K.lookup f23 = some ⟨oc23, od23, .func (PySem.W.fnOf "_law_far" "_law_far" (defArgs st_law_far_43d2) (defBody st_law_far_43d2) (defScope st_law_far_43d2) .none kV23 dc23 pm23 an23 cd23 ct23), sl23⟩) (c23 : PySem.W.codeIn K cd23 "_law_far" = true) (k23 : PySem.W.keepIn K (.ref f23) = true)
    (a24 : PySem.W.nsIn K mainGlobals "neighbours" = some (some (.ref f24))) (l24 : K.lookup f24 = some ⟨oc24, od24, .func (PySem.W.fnOf "neighbours" "neighbours" (defArgs st_neighbours) (defBody st_neighbours) (defScope st_neighbours) .none kV24 dc24 pm24 an24 cd24 ct24), sl24⟩) (c24 : PySem.W.codeIn K cd24 "neighbours" = true) (k24 : PySem.W.keepIn K (.ref f24) = true)
    (a25 : PySem.W.nsIn K mainGlobals "row_hour" = some (some (.ref f25))) (l25 : K.lookup f25 = some ⟨oc25, od25, .func (PySem.W.fnOf "row_hour" "row_hour" (defArgs st_row_hour) (defBody st_row_hour) (defScope st_row_hour) .none kV25 dc25 pm25 an25 cd25 ct25), sl25⟩) (c25 : PySem.W.codeIn K cd25 "row_hour" = true) (k25 : PySem.W.keepIn K (.ref f25) = true)
    (a26 : PySem.W.nsIn K mainGlobals "law" = some (some (.ref f26))) (l26 : K.lookup f26 = some ⟨oc26, od26, .func (PySem.W.fnOf "law" "law" (defArgs st_law) (defBody st_law) (defScope st_law) .none kV26 dc26 pm26 an26 cd26 ct26), sl26⟩) (c26 : PySem.W.codeIn K cd26 "law" = true) (k26 : PySem.W.keepIn K (.ref f26) = true)
    (z_list : PySem.W.nsIn K mainGlobals "list" = some none)
    (z_int : PySem.W.nsIn K mainGlobals "int" = some none)
    (z_len : PySem.W.nsIn K mainGlobals "len" = some none)
    (z_abs : PySem.W.nsIn K mainGlobals "abs" = some none)
    (z_max : PySem.W.nsIn K mainGlobals "max" = some none)
    (z_range : PySem.W.nsIn K mainGlobals "range" = some none)
    (z_tuple : PySem.W.nsIn K mainGlobals "tuple" = some none)
    (z_zip : PySem.W.nsIn K mainGlobals "zip" = some none)
    (z_isinstance : PySem.W.nsIn K mainGlobals "isinstance" = some none)
    (z_enumerate : PySem.W.nsIn K mainGlobals "enumerate" = some none)
    (z_bool : PySem.W.nsIn K mainGlobals "bool" = some none)
    (z_set : PySem.W.nsIn K mainGlobals "set" = some none)
    (z_sorted : PySem.W.nsIn K mainGlobals "sorted" = some none)
    (z_sum : PySem.W.nsIn K mainGlobals "sum" = some none)
    (z_str : PySem.W.nsIn K mainGlobals "str" = some none)
    (z_repr : PySem.W.nsIn K mainGlobals "repr" = some none)
    {t_MOST_REACH : Tok} (m_MOST_REACH : PySem.W.nsIn K mainGlobals "MOST_REACH" = some (some (.int (16) t_MOST_REACH)))
    : ∃ fd : FuncData, (∀ (s : Shared) (v : Value), BindsTo s fd ⟨[v], []⟩ [("script", v)]) ∧ ∀ base : Heap, K.In base → base.Ns mainGlobals mg → base.NoDigits → FnG l.prog w K mg base CX0 22 fa fd ["script"] (liftC K lawS) := by
  have e := hfa.symm.trans (PySem.W.mg_of X G a26)
  cases e
  have F_law_deck_91e6 := fun_mk (st := st_law_deck_91e6) l0 c0 k0
  have D_law_deck_91e6 : Dn K mg "_law_deck" st_law_deck_91e6 ["script"] := ⟨⟨_, _, F_law_deck_91e6, PySem.W.mg_of X G a0, F_law_deck_91e6.binds (ps := ["script"]) fun _ _ _ _ _ _ us hl => match us, hl with | [_], _ => rfl⟩⟩
  have F_law_draw_a51a := fun_mk (st := st_law_draw_a51a) l1 c1 k1
  have D_law_draw_a51a : Dn K mg "_law_draw" st_law_draw_a51a ["deck", "many"] := ⟨⟨_, _, F_law_draw_a51a, PySem.W.mg_of X G a1, F_law_draw_a51a.binds (ps := ["deck", "many"]) fun _ _ _ _ _ _ us hl => match us, hl with | [_, _], _ => rfl⟩⟩
  have F_law_one_90da := fun_mk (st := st_law_one_90da) l2 c2 k2
  have D_law_one_90da : Dn K mg "_law_one" st_law_one_90da ["deck", "items"] := ⟨⟨_, _, F_law_one_90da, PySem.W.mg_of X G a2, F_law_one_90da.binds (ps := ["deck", "items"]) fun _ _ _ _ _ _ us hl => match us, hl with | [_, _], _ => rfl⟩⟩
  have F_law_leaf_a91b := fun_mk (st := st_law_leaf_a91b) l3 c3 k3
  have D_law_leaf_a91b : Dn K mg "_law_leaf" st_law_leaf_a91b ["deck", "letters"] := ⟨⟨_, _, F_law_leaf_a91b, PySem.W.mg_of X G a3, F_law_leaf_a91b.binds (ps := ["deck", "letters"]) fun _ _ _ _ _ _ us hl => match us, hl with | [_, _], _ => rfl⟩⟩
  have F_law_formula_6b2b := fun_mk (st := st_law_formula_6b2b) l4 c4 k4
  have D_law_formula_6b2b : Dn K mg "_law_formula" st_law_formula_6b2b ["deck", "letters", "room", "deep"] := ⟨⟨_, _, F_law_formula_6b2b, PySem.W.mg_of X G a4, F_law_formula_6b2b.binds (ps := ["deck", "letters", "room", "deep"]) fun _ _ _ _ _ _ us hl => match us, hl with | [_, _, _, _], _ => rfl⟩⟩
  have F_law_clock_4333 := fun_mk (st := st_law_clock_4333) l5 c5 k5
  have D_law_clock_4333 : Dn K mg "_law_clock" st_law_clock_4333 ["deck"] := ⟨⟨_, _, F_law_clock_4333, PySem.W.mg_of X G a5, F_law_clock_4333.binds (ps := ["deck"]) fun _ _ _ _ _ _ us hl => match us, hl with | [_], _ => rfl⟩⟩
  have F_common := fun_mk (st := st_common) l6 c6 k6
  have D_common : Dn K mg "common" st_common ["one", "other"] := ⟨⟨_, _, F_common, PySem.W.mg_of X G a6, F_common.binds (ps := ["one", "other"]) fun _ _ _ _ _ _ us hl => match us, hl with | [_, _], _ => rfl⟩⟩
  have F_factorial := fun_mk (st := st_factorial) l7 c7 k7
  have D_factorial : Dn K mg "factorial" st_factorial ["number"] := ⟨⟨_, _, F_factorial, PySem.W.mg_of X G a7, F_factorial.binds (ps := ["number"]) fun _ _ _ _ _ _ us hl => match us, hl with | [_], _ => rfl⟩⟩
  have F_step_of := fun_mk (st := st_step_of) l8 c8 k8
  have D_step_of : Dn K mg "step_of" st_step_of ["clock", "i", "j"] := ⟨⟨_, _, F_step_of, PySem.W.mg_of X G a8, F_step_of.binds (ps := ["clock", "i", "j"]) fun _ _ _ _ _ _ us hl => match us, hl with | [_, _, _], _ => rfl⟩⟩
  have F_made_plain := fun_mk (st := st_made_plain) l9 c9 k9
  have D_made_plain : Dn K mg "made_plain" st_made_plain ["rows", "clock"] := ⟨⟨_, _, F_made_plain, PySem.W.mg_of X G a9, F_made_plain.binds (ps := ["rows", "clock"]) fun _ _ _ _ _ _ us hl => match us, hl with | [_, _], _ => rfl⟩⟩
  have F_differences := fun_mk (st := st_differences) l10 c10 k10
  have D_differences : Dn K mg "differences" st_differences ["items"] := ⟨⟨_, _, F_differences, PySem.W.mg_of X G a10, F_differences.binds (ps := ["items"]) fun _ _ _ _ _ _ us hl => match us, hl with | [_], _ => rfl⟩⟩
  have F_powered := fun_mk (st := st_powered) l11 c11 k11
  have D_powered : Dn K mg "powered" st_powered ["number", "times"] := ⟨⟨_, _, F_powered, PySem.W.mg_of X G a11, F_powered.binds (ps := ["number", "times"]) fun _ _ _ _ _ _ us hl => match us, hl with | [_, _], _ => rfl⟩⟩
  have F_worth := fun_mk (st := st_worth) l12 c12 k12
  have D_worth : Dn K mg "worth" st_worth ["formula", "x", "y"] := ⟨⟨_, _, F_worth, PySem.W.mg_of X G a12, F_worth.binds (ps := ["formula", "x", "y"]) fun _ _ _ _ _ _ us hl => match us, hl with | [_, _, _], _ => rfl⟩⟩
  have F_square := fun_mk (st := st_square) l13 c13 k13
  have D_square : Dn K mg "square" st_square ["formula"] := ⟨⟨_, _, F_square, PySem.W.mg_of X G a13, F_square.binds (ps := ["formula"]) fun _ _ _ _ _ _ us hl => match us, hl with | [_], _ => rfl⟩⟩
  have F_rows_of := fun_mk (st := st_rows_of) l14 c14 k14
  have D_rows_of : Dn K mg "rows_of" st_rows_of ["formula"] := ⟨⟨_, _, F_rows_of, PySem.W.mg_of X G a14, F_rows_of.binds (ps := ["formula"]) fun _ _ _ _ _ _ us hl => match us, hl with | [_], _ => rfl⟩⟩
  have F_plain := fun_mk (st := st_plain) l15 c15 k15
  have D_plain : Dn K mg "plain" st_plain ["formula", "clock"] := ⟨⟨_, _, F_plain, PySem.W.mg_of X G a15, F_plain.binds (ps := ["formula", "clock"]) fun _ _ _ _ _ _ us hl => match us, hl with | [_, _], _ => rfl⟩⟩
  have F_law_common_ae84 := fun_mk (st := st_law_common_ae84) l16 c16 k16
  have D_law_common_ae84 : Dn K mg "_law_common" st_law_common_ae84 ["one", "other"] := ⟨⟨_, _, F_law_common_ae84, PySem.W.mg_of X G a16, F_law_common_ae84.binds (ps := ["one", "other"]) fun _ _ _ _ _ _ us hl => match us, hl with | [_, _], _ => rfl⟩⟩
  have F_law_falling_d92b := fun_mk (st := st_law_falling_d92b) l17 c17 k17
  have D_law_falling_d92b : Dn K mg "_law_falling" st_law_falling_d92b ["x", "many"] := ⟨⟨_, _, F_law_falling_d92b, PySem.W.mg_of X G a17, F_law_falling_d92b.binds (ps := ["x", "many"]) fun _ _ _ _ _ _ us hl => match us, hl with | [_, _], _ => rfl⟩⟩
  have F_law_step_b26f := fun_mk (st := st_law_step_b26f) l18 c18 k18
  have D_law_step_b26f : Dn K mg "_law_step" st_law_step_b26f ["clock", "i", "j"] := ⟨⟨_, _, F_law_step_b26f, PySem.W.mg_of X G a18, F_law_step_b26f.binds (ps := ["clock", "i", "j"]) fun _ _ _ _ _ _ us hl => match us, hl with | [_, _, _], _ => rfl⟩⟩
  have F_law_are_plain_606f := fun_mk (st := st_law_are_plain_606f) l19 c19 k19
  have D_law_are_plain_606f : Dn K mg "_law_are_plain" st_law_are_plain_606f ["rows", "clock"] := ⟨⟨_, _, F_law_are_plain_606f, PySem.W.mg_of X G a19, F_law_are_plain_606f.binds (ps := ["rows", "clock"]) fun _ _ _ _ _ _ us hl => match us, hl with | [_, _], _ => rfl⟩⟩
  have F_law_triangle_2d73 := fun_mk (st := st_law_triangle_2d73) l20 c20 k20
  have D_law_triangle_2d73 : Dn K mg "_law_triangle" st_law_triangle_2d73 [] := ⟨⟨_, _, F_law_triangle_2d73, PySem.W.mg_of X G a20, F_law_triangle_2d73.binds (ps := []) fun _ _ _ _ _ _ us hl => match us, hl with | [], _ => rfl⟩⟩
  have F_law_by_rows_b9e4 := fun_mk (st := st_law_by_rows_b9e4) l21 c21 k21
  have D_law_by_rows_b9e4 : Dn K mg "_law_by_rows" st_law_by_rows_b9e4 ["rows", "x", "y"] := ⟨⟨_, _, F_law_by_rows_b9e4, PySem.W.mg_of X G a21, F_law_by_rows_b9e4.binds (ps := ["rows", "x", "y"]) fun _ _ _ _ _ _ us hl => match us, hl with | [_, _, _], _ => rfl⟩⟩
  have F_law_worth_98b9 := fun_mk (st := st_law_worth_98b9) l22 c22 k22
  have D_law_worth_98b9 : Dn K mg "_law_worth" st_law_worth_98b9 ["formula", "x", "y"] := ⟨⟨_, _, F_law_worth_98b9, PySem.W.mg_of X G a22, F_law_worth_98b9.binds (ps := ["formula", "x", "y"]) fun _ _ _ _ _ _ us hl => match us, hl with | [_, _, _], _ => rfl⟩⟩
  have F_law_far_43d2 := fun_mk (st := st_law_far_43d2) l23 c23 k23
  have D_law_far_43d2 : Dn K mg "_law_far" st_law_far_43d2 ["deck"] := ⟨⟨_, _, F_law_far_43d2, PySem.W.mg_of X G a23, F_law_far_43d2.binds (ps := ["deck"]) fun _ _ _ _ _ _ us hl => match us, hl with | [_], _ => rfl⟩⟩
  have F_neighbours := fun_mk (st := st_neighbours) l24 c24 k24
  have D_neighbours : Dn K mg "neighbours" st_neighbours ["x", "many"] := ⟨⟨_, _, F_neighbours, PySem.W.mg_of X G a24, F_neighbours.binds (ps := ["x", "many"]) fun _ _ _ _ _ _ us hl => match us, hl with | [_, _], _ => rfl⟩⟩
  have F_row_hour := fun_mk (st := st_row_hour) l25 c25 k25
  have D_row_hour : Dn K mg "row_hour" st_row_hour ["rows", "clock", "x", "y"] := ⟨⟨_, _, F_row_hour, PySem.W.mg_of X G a25, F_row_hour.binds (ps := ["rows", "clock", "x", "y"]) fun _ _ _ _ _ _ us hl => match us, hl with | [_, _, _, _], _ => rfl⟩⟩
  have F_law := fun_mk (st := st_law) l26 c26 k26
  have b_list := PySem.W.mg_none_of X G z_list
  have b_int := PySem.W.mg_none_of X G z_int
  have b_len := PySem.W.mg_none_of X G z_len
  have b_abs := PySem.W.mg_none_of X G z_abs
  have b_max := PySem.W.mg_none_of X G z_max
  have b_range := PySem.W.mg_none_of X G z_range
  have b_tuple := PySem.W.mg_none_of X G z_tuple
  have b_zip := PySem.W.mg_none_of X G z_zip
  have b_isinstance := PySem.W.mg_none_of X G z_isinstance
  have b_enumerate := PySem.W.mg_none_of X G z_enumerate
  have b_bool := PySem.W.mg_none_of X G z_bool
  have b_set := PySem.W.mg_none_of X G z_set
  have b_sorted := PySem.W.mg_none_of X G z_sorted
  have b_sum := PySem.W.mg_none_of X G z_sum
  have b_str := PySem.W.mg_none_of X G z_str
  have b_repr := PySem.W.mg_none_of X G z_repr
  have g_MOST_REACH := (⟨⟨.int (16), .int (16) t_MOST_REACH, PySem.W.mg_of X G m_MOST_REACH, ⟨_, rfl⟩, fun F => .int _⟩⟩ : Glb K mg "MOST_REACH" (.int 16))
  refine ⟨PySem.W.fnOf "law" "law" (defArgs st_law) (defBody st_law) (defScope st_law) .none kV26 dc26 pm26 an26 cd26 ct26, fun s v => .of_eq rfl, fun base _ _ hnd => ?_⟩
  have c_law_deck_91e6 : Cal l.prog w K mg base 1 "_law_deck" ["script"] S_deck := cal_law_deck_91e6 (k := 0) hnd D_law_deck_91e6 b_list (by rintro args Q ⟨_, rfl, _⟩; rfl) (sp_deck)
  have c_law_draw_a51a : Cal l.prog w K mg base 1 "_law_draw" ["deck", "many"] S_draw := cal_law_draw_a51a (k := 0) hnd D_law_draw_a51a b_int b_len b_abs (by rintro args Q ⟨_, _, _, rfl, _⟩; rfl) (sp_draw)
  have c_law_one_90da : Cal l.prog w K mg base 2 "_law_one" ["deck", "items"] S_one := cal_law_one_90da (k := 1) hnd D_law_one_90da (c_law_draw_a51a.mono (by first | decide | omega)) b_len (by rintro args Q ⟨_, _, _, rfl, _⟩; rfl) (sp_one)
  have c_law_leaf_a91b : Cal l.prog w K mg base 3 "_law_leaf" ["deck", "letters"] S_leaf := cal_law_leaf_a91b (k := 2) hnd D_law_leaf_a91b (c_law_draw_a51a.mono (by first | decide | omega)) (c_law_one_90da.mono (by first | decide | omega)) (by rintro args Q ⟨_, _, _, _, rfl, _⟩; rfl) (sp_leaf)
  have c_law_formula_6b2b : ∀ d, Cal l.prog w K mg base (d + 3) "_law_formula" ["deck", "letters", "room", "deep"] (S_formula d) := fun d => by
    induction d with
    | zero => exact Cal.vac D_law_formula_6b2b S_formula0
    | succ d ih => exact cal_law_formula_6b2b (k := d + 3) hnd D_law_formula_6b2b (c_law_draw_a51a.mono (by first | decide | omega)) (c_law_leaf_a91b.mono (by first | decide | omega)) ih b_max (by rintro args Q ⟨_, _, _, _, _, _, rfl, _⟩; rfl) (sp_formula d)
  have c_law_clock_4333 : Cal l.prog w K mg base 3 "_law_clock" ["deck"] S_clock := cal_law_clock_4333 (k := 2) hnd D_law_clock_4333 (c_law_draw_a51a.mono (by first | decide | omega)) (c_law_one_90da.mono (by first | decide | omega)) (by rintro args Q ⟨_, _, rfl, _⟩; rfl) (sp_clock)
  have c_common : Cal l.prog w K mg base 1 "common" ["one", "other"] S_common := cal_common (k := 0) hnd D_common (by rintro args Q ⟨_, _, rfl, _⟩; rfl) (sp_common)
  have c_factorial : Cal l.prog w K mg base 1 "factorial" ["number"] S_factorial := cal_factorial (k := 0) hnd D_factorial b_range (by rintro args Q ⟨_, rfl, _⟩; rfl) (sp_factorial)
  have c_step_of : Cal l.prog w K mg base 2 "step_of" ["clock", "i", "j"] S_step := cal_step_of (k := 1) hnd D_step_of (c_common.mono (by first | decide | omega)) (c_factorial.mono (by first | decide | omega)) (by rintro args Q ⟨_, _, _, rfl, _⟩; rfl) (sp_step_of)
  have c_made_plain : Cal l.prog w K mg base 3 "made_plain" ["rows", "clock"] S_made := cal_made_plain (k := 2) hnd D_made_plain (c_step_of.mono (by first | decide | omega)) b_tuple (by rintro args Q ⟨_, _, rfl, _⟩; rfl) (sp_made_plain)
  have c_differences : Cal l.prog w K mg base 1 "differences" ["items"] S_differences := cal_differences (k := 0) hnd D_differences b_zip (by rintro args Q ⟨_, rfl, _⟩; rfl) (sp_differences)
  have c_powered : Cal l.prog w K mg base 1 "powered" ["number", "times"] S_powered := cal_powered (k := 0) hnd D_powered b_range (by rintro args Q ⟨_, _, _, rfl, _⟩; rfl) (sp_powered)
  have c_worth : ∀ d, Cal l.prog w K mg base (d + 1) "worth" ["formula", "x", "y"] (S_worth d) := fun d => by
    induction d with
    | zero => exact Cal.vac D_worth S_worth0
    | succ d ih => exact cal_worth (k := d + 1) hnd D_worth ih (c_powered.mono (by first | decide | omega)) b_isinstance b_tuple (by rintro args Q ⟨_, _, _, _, rfl, _⟩; rfl) (sp_worth d)
  have c_square : Cal l.prog w K mg base 19 "square" ["formula"] (S_square 17) := cal_square (k := 18) hnd D_square (c_differences.mono (by first | decide | omega)) ((c_worth 17).mono (by first | decide | omega)) b_range g_MOST_REACH (by rintro args Q ⟨_, _, rfl, _⟩; rfl) (sp_square 17)
  have c_rows_of : Cal l.prog w K mg base 20 "rows_of" ["formula"] (S_rows 17) := cal_rows_of (k := 19) hnd D_rows_of (c_square.mono (by first | decide | omega)) (c_factorial.mono (by first | decide | omega)) b_enumerate b_tuple (by rintro args Q ⟨_, _, rfl, _⟩; rfl) (sp_rows_of 17)
  have c_plain : Cal l.prog w K mg base 21 "plain" ["formula", "clock"] (S_plain 17) := cal_plain (k := 20) hnd D_plain (c_made_plain.mono (by first | decide | omega)) (c_rows_of.mono (by first | decide | omega)) (by rintro args Q ⟨_, _, _, rfl, _⟩; rfl) (sp_plain 17)
  have c_law_common_ae84 : Cal l.prog w K mg base 1 "_law_common" ["one", "other"] S_common := cal_law_common_ae84 (k := 0) hnd D_law_common_ae84 b_int (by rintro args Q ⟨_, _, rfl, _⟩; rfl) (sp_law_common)
  have c_law_falling_d92b : Cal l.prog w K mg base 1 "_law_falling" ["x", "many"] S_falling := cal_law_falling_d92b (k := 0) hnd D_law_falling_d92b b_range (by rintro args Q ⟨_, _, _, rfl, _⟩; rfl) (sp_law_falling)
  have c_law_step_b26f : Cal l.prog w K mg base 2 "_law_step" ["clock", "i", "j"] S_step := cal_law_step_b26f (k := 1) hnd D_law_step_b26f (c_law_common_ae84.mono (by first | decide | omega)) (c_law_falling_d92b.mono (by first | decide | omega)) (by rintro args Q ⟨_, _, _, rfl, _⟩; rfl) (sp_lstep)
  have c_law_are_plain_606f : Cal l.prog w K mg base 3 "_law_are_plain" ["rows", "clock"] S_areP := cal_law_are_plain_606f (k := 2) hnd D_law_are_plain_606f (c_law_step_b26f.mono (by first | decide | omega)) b_isinstance b_tuple b_len b_bool b_int b_set b_sorted (by rintro args Q ⟨_, _, rfl, _⟩; rfl) (sp_areP)
  have c_law_triangle_2d73 : Cal l.prog w K mg base 1 "_law_triangle" [] S_triangle := cal_law_triangle_2d73 (k := 0) hnd D_law_triangle_2d73 b_range (by rintro args Q ⟨rfl, _⟩; rfl) (sp_triangle)
  have c_law_by_rows_b9e4 : Cal l.prog w K mg base 2 "_law_by_rows" ["rows", "x", "y"] S_byr6 := cal_law_by_rows_b9e4 (k := 1) hnd D_law_by_rows_b9e4 (c_law_falling_d92b.mono (by first | decide | omega)) b_sum (by rintro args Q ⟨_, _, _, rfl, _⟩; rfl) (sp_byr6)
  have c_law_worth_98b9 : ∀ d, Cal l.prog w K mg base (d + 1) "_law_worth" ["formula", "x", "y"] (S_worth d) := fun d => by
    induction d with
    | zero => exact Cal.vac D_law_worth_98b9 S_worth0
    | succ d ih => exact cal_law_worth_98b9 (k := d + 1) hnd D_law_worth_98b9 ih b_isinstance b_str b_int b_range (by rintro args Q ⟨_, _, _, _, rfl, _⟩; rfl) (sp_law_worth d)
  have c_law_far_43d2 : Cal l.prog w K mg base 3 "_law_far" ["deck"] S_far := cal_law_far_43d2 (k := 2) hnd D_law_far_43d2 (c_law_draw_a51a.mono (by first | decide | omega)) (c_law_one_90da.mono (by first | decide | omega)) (by rintro args Q ⟨_, _, rfl, _⟩; rfl) (sp_far)
  have c_neighbours : Cal l.prog w K mg base 1 "neighbours" ["x", "many"] S_falling := cal_neighbours (k := 0) hnd D_neighbours b_range (by rintro args Q ⟨_, _, _, rfl, _⟩; rfl) (sp_neighbours)
  have c_row_hour : Cal l.prog w K mg base 2 "row_hour" ["rows", "clock", "x", "y"] S_rowhour7 := cal_row_hour (k := 1) hnd D_row_hour (c_neighbours.mono (by first | decide | omega)) b_sum (by rintro args Q ⟨_, _, _, _, rfl, _⟩; rfl) (sp_rowhour7)
  exact fn_law (k := 21) hnd F_law (c_law_deck_91e6.mono (by first | decide | omega)) ((c_law_formula_6b2b 5).mono (by first | decide | omega)) (c_law_draw_a51a.mono (by first | decide | omega)) (c_law_one_90da.mono (by first | decide | omega)) (c_law_clock_4333.mono (by first | decide | omega)) (c_plain.mono (by first | decide | omega)) (c_made_plain.mono (by first | decide | omega)) (c_rows_of.mono (by first | decide | omega)) (c_law_are_plain_606f.mono (by first | decide | omega)) (c_law_triangle_2d73.mono (by first | decide | omega)) (c_law_by_rows_b9e4.mono (by first | decide | omega)) ((c_law_worth_98b9 17).mono (by first | decide | omega)) (c_law_far_43d2.mono (by first | decide | omega)) (c_row_hour.mono (by first | decide | omega)) b_range b_repr (by rintro args Q ⟨_, rfl, _⟩; rfl) (sp_law)
end DL
open PySem PySem.W PyProof.Rows
set_option maxRecDepth 100000 in
set_option maxHeartbeats 0 in
theorem PySem.Challenge.cw_hourforms_k07_plain_rows_holds : PySem.Challenge.rw_hourforms_k07_plain_rows.Holds := by
  w_on; o_law; k_head; (case hw => w_witness2)
  k_fill
  refine DL.walkG (l := PySem.Challenge.rw_hourforms_k07_plain_rows) (x := "script") (k := 22) rfl rfl ⟨rfl, by decide, by decide⟩ (fun w h Y => PySem.W.kIn_of Y) ?F
  case F =>
    intro w mg fa h KX G hmg
    refine' DL.all_mk KX G hmg ?a0 ?l0 ?c0 ?k0 ?a1 ?l1 ?c1 ?k1 ?a2 ?l2 ?c2 ?k2 ?a3 ?l3 ?c3 ?k3 ?a4 ?l4 ?c4 ?k4 ?a5 ?l5 ?c5 ?k5 ?a6 ?l6 ?c6 ?k6 ?a7 ?l7 ?c7 ?k7 ?a8 ?l8 ?c8 ?k8 ?a9 ?l9 ?c9 ?k9 ?a10 ?l10 ?c10 ?k10 ?a11 ?l11 ?c11 ?k11 ?a12 ?l12 ?c12 ?k12 ?a13 ?l13 ?c13 ?k13 ?a14 ?l14 ?c14 ?k14 ?a15 ?l15 ?c15 ?k15 ?a16 ?l16 ?c16 ?k16 ?a17 ?l17 ?c17 ?k17 ?a18 ?l18 ?c18 ?k18 ?a19 ?l19 ?c19 ?k19 ?a20 ?l20 ?c20 ?k20 ?a21 ?l21 ?c21 ?k21 ?a22 ?l22 ?c22 ?k22 ?a23 ?l23 ?c23 ?k23 ?a24 ?l24 ?c24 ?k24 ?a25 ?l25 ?c25 ?k25 ?a26 ?l26 ?c26 ?k26 ?z_list ?z_int ?z_len ?z_abs ?z_max ?z_range ?z_tuple ?z_zip ?z_isinstance ?z_enumerate ?z_bool ?z_set ?z_sorted ?z_sum ?z_str ?z_repr ?m_MOST_REACH
    (case a0 => k_is)
    (case l0 => k_is)
    (case c0 => k_is)
    (case k0 => k_is)
    (case a1 => k_is)
    (case l1 => k_is)
    (case c1 => k_is)
    (case k1 => k_is)
    (case a2 => k_is)
    (case l2 => k_is)
    (case c2 => k_is)
    (case k2 => k_is)
    (case a3 => k_is)
    (case l3 => k_is)
    (case c3 => k_is)
    (case k3 => k_is)
    (case a4 => k_is)
    (case l4 => k_is)
    (case c4 => k_is)
    (case k4 => k_is)
    (case a5 => k_is)
    (case l5 => k_is)
    (case c5 => k_is)
    (case k5 => k_is)
    (case a6 => k_is)
    (case l6 => k_is)
    (case c6 => k_is)
    (case k6 => k_is)
    (case a7 => k_is)
    (case l7 => k_is)
    (case c7 => k_is)
    (case k7 => k_is)
    (case a8 => k_is)
    (case l8 => k_is)
    (case c8 => k_is)
    (case k8 => k_is)
    (case a9 => k_is)
    (case l9 => k_is)
    (case c9 => k_is)
    (case k9 => k_is)
    (case a10 => k_is)
    (case l10 => k_is)
    (case c10 => k_is)
    (case k10 => k_is)
    (case a11 => k_is)
    (case l11 => k_is)
    (case c11 => k_is)
    (case k11 => k_is)
    (case a12 => k_is)
    (case l12 => k_is)
    (case c12 => k_is)
    (case k12 => k_is)
    (case a13 => k_is)
    (case l13 => k_is)
    (case c13 => k_is)
    (case k13 => k_is)
    (case a14 => k_is)
    (case l14 => k_is)
    (case c14 => k_is)
    (case k14 => k_is)
    (case a15 => k_is)
    (case l15 => k_is)
    (case c15 => k_is)
    (case k15 => k_is)
    (case a16 => k_is)
    (case l16 => k_is)
    (case c16 => k_is)
    (case k16 => k_is)
    (case a17 => k_is)
    (case l17 => k_is)
    (case c17 => k_is)
    (case k17 => k_is)
    (case a18 => k_is)
    (case l18 => k_is)
    (case c18 => k_is)
    (case k18 => k_is)
    (case a19 => k_is)
    (case l19 => k_is)
    (case c19 => k_is)
    (case k19 => k_is)
    (case a20 => k_is)
    (case l20 => k_is)
    (case c20 => k_is)
    (case k20 => k_is)
    (case a21 => k_is)
    (case l21 => k_is)
    (case c21 => k_is)
    (case k21 => k_is)
    (case a22 => k_is)
    (case l22 => k_is)
    (case c22 => k_is)
    (case k22 => k_is)
    (case a23 => k_is)
    (case l23 => k_is)
    (case c23 => k_is)
    (case k23 => k_is)
    (case a24 => k_is)
    (case l24 => k_is)
    (case c24 => k_is)
    (case k24 => k_is)
    (case a25 => k_is)
    (case l25 => k_is)
    (case c25 => k_is)
    (case k25 => k_is)
    (case a26 => k_is)
    (case l26 => k_is)
    (case c26 => k_is)
    (case k26 => k_is)
    (case z_list => k_is)
    (case z_int => k_is)
    (case z_len => k_is)
    (case z_abs => k_is)
    (case z_max => k_is)
    (case z_range => k_is)
    (case z_tuple => k_is)
    (case z_zip => k_is)
    (case z_isinstance => k_is)
    (case z_enumerate => k_is)
    (case z_bool => k_is)
    (case z_set => k_is)
    (case z_sorted => k_is)
    (case z_sum => k_is)
    (case z_str => k_is)
    (case z_repr => k_is)
    (case m_MOST_REACH => k_is)
