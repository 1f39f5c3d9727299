import PyProof.Rows.All
import Wide.All
import OpenK.AllK
import Wide.FinOn
import HandS.ForMost
import HandS.Wide
import HandS.IsInst
import HandS.TupAny
import HandS.TupLe
import HandS.TupMul
import HandS.SortInts
import HandS.Style
import HandS.NoneIn
import HandS.Zip
import PyProof.Rows.Digits
import PyProof.ReprRoads
import PyProof.Rows.StrOr
import HandS.Dict
import HandS.Conv
import HandS.TupSets
import HandS.Keys
import KE.KTupSum
import HandS.More
import PyProof.StrLawsIn
import HandS.TupLen
import PyProof.Rows.TupAdd
import HandS.Star
import HandS.Defaults
import HandS.SetFor
import HandS.Strs
import KE.KOpsOwn
import KE.KFmtOwn
import HandS.OwnEq
import PyProof.TwoTypes
import KE.GoesZip
import KE.GoesMore
import HandS.Exc
import HandS.ExcInit
import HandS.ExcField
import HandS.ExcIs
import HandS.ExcOwn
import HandS.Lambda
import HandS.TryMany
import HandS.DictComp
import KE.IntTextLaws
import PyProof.CollectStr
import KE.KIntText
import PyProof.NeKinds
import PySem.Challenge.RW_hourforms_k63_texts_cut_long_and_deep
set_option Elab.async false
set_option linter.all false
set_option maxRecDepth 100000
set_option maxHeartbeats 1000000
set_option autoImplicit false
namespace DL
open PySem L2
abbrev PD := PyData
def keyD : Key → PD
  | .inl i => .int i
  | .inr s => .str s
theorem seqT {K : PySem.W.Frag} {H H' : Hp} {a : Addr} {xs : List V} (e : Same H H') (h : SqT K H a xs) : SqT K H' a xs := by
  rcases h with (h | ⟨o, h⟩) | h
  · exact .inl (.inl (e _ _ h))
  · exact .inl (.inr ⟨o, e _ _ h⟩)
  · exact .inr h
theorem rdM {H H' : Hp} {a : Addr} {u : HO} (e : Same H H') (h : Rd H a u) : Rd H' a u := by
  rcases h with h | ⟨o, h⟩
  · exact .inl (e _ _ h)
  · exact .inr ⟨o, e _ _ h⟩
mutual
/-- the value v stands, in H, for the data d -/
inductive Df (K : PySem.W.Frag) (H : Hp) : V → PD → Prop
  | non : Df K H .non .none
  | bl (b : Bool) : Df K H (.bl b) (.bool b)
  | int (i : Int) : Df K H (.int i) (.int i)
  | str (x : Str) : Df K H (.str x) (.str x)
  | lst {a : Addr} {xs : List V} {ds : List PD} : Rd H a (.lst xs) → DfA K H xs ds → Df K H (.ref a) (.list ds)
  | tup {a : Addr} {xs : List V} {ds : List PD} : SqT K H a xs → DfA K H xs ds → Df K H (.ref a) (.tuple ds)
  | dk {a : Addr} {kvs : List (Key × V)} {es : List (PD × PD)} : Rd H a (.dK kvs) → DfK K H kvs es → Df K H (.ref a) (.dict es)
  | ins {a C dx : Addr} {fs : List (Str × V)} {es : List (PD × PD)} : H a = some (.ins C dx fs) → DfF K H fs es → Df K H (.ref a) (.dict ((.none, .int (C : Int)) :: es))
  /-- a caught error of the class at C without attributes -/
  | ex0 {a C : Addr} : Df K H (.ref a) (.dict [(.bool true, .int (C : Int)), (.bool true, .int (a : Int)), (.bool true, .none)])
  /-- .. its attributes at dd -/
  | ex1 {a C dd : Addr} {fs : List (Str × V)} {es : List (PD × PD)} : H dd = some (.xd fs) → DfF K H fs es → Df K H (.ref a) (.dict ((.bool true, .int (C : Int)) :: (.bool true, .int (a : Int)) :: (.bool true, .int (dd : Int)) :: es))
  /-- a locked dict -/
  | dkL {a : Addr} {o : Obj} {kvs : List (Key × V)} {es : List (PD × PD)} : H a = some (.frz o (.dK kvs)) → DfK K H kvs es → Df K H (.ref a) (.dict ((.bool false, .none) :: es))
  /-- a tuple that is a key of an own dict, or may be one -/
  | ky {a : Addr} {ks : List Key} : H a = some (.tup (ks.map kV)) → Df K H (.ref a) (.dict [(.bool false, .tuple (ks.map keyD))])
inductive DfA (K : PySem.W.Frag) (H : Hp) : List V → List PD → Prop
  | nil : DfA K H [] []
  | cons {v : V} {vs : List V} {d : PD} {ds : List PD} : Df K H v d → DfA K H vs ds → DfA K H (v :: vs) (d :: ds)
inductive DfK (K : PySem.W.Frag) (H : Hp) : List (Key × V) → List (PD × PD) → Prop
  | nil : DfK K H [] []
  | cons {k : Key} {v : V} {vs : List (Key × V)} {d : PD} {ds : List (PD × PD)} : Df K H v d → DfK K H vs ds → DfK K H ((k, v) :: vs) ((keyD k, d) :: ds)
inductive DfF (K : PySem.W.Frag) (H : Hp) : List (Str × V) → List (PD × PD) → Prop
  | nil : DfF K H [] []
  | cons {k : Str} {v : V} {vs : List (Str × V)} {d : PD} {ds : List (PD × PD)} : Df K H v d → DfF K H vs ds → DfF K H ((k, v) :: vs) ((.str k, d) :: ds)
end
section
variable {K : PySem.W.Frag} {H H' F F' : Hp} {v : V} {d : PD} {vs : List V} {ds : List PD}
theorem Df.mono (e : Same H H') (h : Df K H v d) : Df K H' v d :=
  Df.rec (motive_1 := fun v d _ => Df K H' v d) (motive_2 := fun vs ds _ => DfA K H' vs ds) (motive_3 := fun vs ds _ => DfK K H' vs ds) (motive_4 := fun vs ds _ => DfF K H' vs ds)
    .non .bl .int .str (fun h _ ih => .lst (rdM e h) ih) (fun h _ ih => .tup (seqT e h) ih) (fun h _ ih => .dk (rdM e h) ih) (fun h _ ih => .ins (e _ _ h) ih) .ex0 (fun h _ ih => .ex1 (e _ _ h) ih) (fun h _ ih => .dkL (e _ _ h) ih) (fun h => .ky (e _ _ h))
    .nil (fun _ _ a b => .cons a b) .nil (fun _ _ a b => .cons a b) .nil (fun _ _ a b => .cons a b) h
theorem DfA.mono (e : Same H H') (h : DfA K H vs ds) : DfA K H' vs ds := by
  induction vs generalizing ds with
  | nil => cases h; exact .nil
  | cons v vs ih =>
    cases h with
    | cons a b => exact .cons (a.mono e) (ih b)
theorem DfK.mono {vs : List (Key × V)} {ds : List (PD × PD)} (e : Same H H') (h : DfK K H vs ds) : DfK K H' vs ds := by
  induction vs generalizing ds with
  | nil => cases h; exact .nil
  | cons v vs ih =>
    cases h with
    | cons a b => exact .cons (a.mono e) (ih b)
theorem DfF.mono {vs : List (Str × V)} {ds : List (PD × PD)} (e : Same H H') (h : DfF K H vs ds) : DfF K H' vs ds := by
  induction vs generalizing ds with
  | nil => cases h; exact .nil
  | cons v vs ih =>
    cases h with
    | cons a b => exact .cons (a.mono e) (ih b)
theorem DfA.length (h : DfA K H vs ds) : vs.length = ds.length := by
  induction vs generalizing ds with
  | nil => cases h; rfl
  | cons v vs ih =>
    cases h with
    | cons a b => rw [List.length_cons, List.length_cons, ih b]
theorem DfA.append {us : List V} {es : List PD} (h : DfA K H vs ds) (g : DfA K H us es) : DfA K H (vs ++ us) (ds ++ es) := by
  induction vs generalizing ds with
  | nil => cases h; exact g
  | cons v vs ih =>
    cases h with
    | cons a b => exact .cons a (ih b)
theorem DfA.get {i : Nat} (h : DfA K H vs ds) (e : ds[i]? = some d) : ∃ v, vs[i]? = some v ∧ Df K H v d := by
  induction vs generalizing ds i with
  | nil => cases h; simp at e
  | cons v vs ih =>
    cases h with
    | cons a b =>
      cases i with
      | zero => simp at e; subst e; exact ⟨v, rfl, a⟩
      | succ i => simp at e; obtain ⟨u, h1, h2⟩ := ih b e; exact ⟨u, by simpa using h1, h2⟩
theorem DfA.get' {i : Nat} (h : DfA K H vs ds) (e : vs[i]? = some v) : ∃ d, ds[i]? = some d ∧ Df K H v d := by
  induction vs generalizing ds i with
  | nil => simp at e
  | cons u vs ih =>
    cases h with
    | cons a b =>
      cases i with
      | zero => simp at e; subst e; exact ⟨_, rfl, a⟩
      | succ i => simp at e; obtain ⟨u, h1, h2⟩ := ih b e; exact ⟨u, by simpa using h1, h2⟩
theorem DfA.take (n : Nat) (h : DfA K H vs ds) : DfA K H (vs.take n) (ds.take n) := by
  induction vs generalizing ds n with
  | nil => cases h; simp; exact .nil
  | cons v vs ih =>
    cases h with
    | cons a b =>
      cases n with
      | zero => exact .nil
      | succ n => exact .cons a (ih n b)
theorem DfA.drop (n : Nat) (h : DfA K H vs ds) : DfA K H (vs.drop n) (ds.drop n) := by
  induction vs generalizing ds n with
  | nil => cases h; simp; exact .nil
  | cons v vs ih =>
    cases h with
    | cons a b =>
      cases n with
      | zero => exact .cons a b
      | succ n => exact ih n b
theorem DfA.set (i : Nat) (h : DfA K H vs ds) (g : Df K H v d) : DfA K H (vs.set i v) (ds.set i d) := by
  induction vs generalizing ds i with
  | nil => cases h; exact .nil
  | cons v vs ih =>
    cases h with
    | cons a b =>
      cases i with
      | zero => exact .cons g b
      | succ i => exact .cons a (ih i b)
theorem DfA.snoc (h : DfA K H vs ds) (g : Df K H v d) : DfA K H (vs ++ [v]) (ds ++ [d]) := h.append (.cons g .nil)
theorem DfA.replicate (n : Nat) (g : DfA K H vs ds) : DfA K H (List.replicate n vs).flatten (List.replicate n ds).flatten := by
  induction n with
  | zero => exact .nil
  | succ n ih => rw [List.replicate_succ, List.replicate_succ, List.flatten_cons, List.flatten_cons]; exact g.append ih
theorem DfA.ints (ns : List Int) : DfA K H (ns.map V.int) (ns.map PyData.int) := by
  induction ns with
  | nil => exact .nil
  | cons n r ih => exact .cons (.int n) ih
end
mutual
def noDict : PD → Bool
  | .dict _ => false
  | .list xs => noDictA xs
  | .tuple xs => noDictA xs
  | _ => true
def noDictA : List PD → Bool
  | [] => true
  | x :: r => noDict x && noDictA r
end
section
variable {K : PySem.W.Frag} {H : Hp}
theorem Df.dp {v : V} {d : PD} (h : Df K H v d) : noDict d = true → Dp K H v d :=
  Df.rec (motive_1 := fun v d _ => noDict d = true → Dp K H v d) (motive_2 := fun vs ds _ => noDictA ds = true → DpAll K H vs ds) (motive_3 := fun _ _ _ => True) (motive_4 := fun _ _ _ => True)
    (fun _ => .non) (fun b _ => .bl b) (fun i _ => .int i) (fun x _ => .str x) (fun h _ ih e => .lst (.inl h) (ih (by simpa [noDict] using e))) (fun h _ ih e => .tup h (ih (by simpa [noDict] using e)))
    (fun _ _ _ e => by simp [noDict] at e) (fun _ _ _ e => by simp [noDict] at e) (fun e => by simp [noDict] at e) (fun _ _ _ e => by simp [noDict] at e) (fun _ _ _ e => by simp [noDict] at e) (fun _ e => by simp [noDict] at e)
    (fun _ => .nil) (fun _ _ a b e => by simp [noDictA] at e; exact .cons (a e.1) (b e.2)) trivial (fun _ _ _ _ => trivial) trivial (fun _ _ _ _ => trivial) h
end
inductive Lc where
  | d (x : PD)
  | ls (p : Option Nat) (xs : List PD)
  | dk (p : Option Nat) (kvs : List (Key × PD))
  | dt (p : Option Nat) (kvs : List (List Key × PD))
  /-- an own instance of the class at C, its attributes -/
  | ob (p : Option Nat) (C : Addr) (fs : List (Str × PD))
  /-- a list that is only read: the script -/
  | sc (xs : List PD)
  /-- an own instance of the class at C: attributes that are data, and behind them own lists of its own, each with its address -/
  | nb (p : Option Nat) (C : Addr) (fs : List (Str × PD)) (ns : List (Str × Addr × List PD))
  /-- an own list of own lists of its own, each with its address -/
  | ln (p : Option Nat) (xs : List (Addr × List PD))
def Lc.fp : Lc → List (Addr × List PD)
  | .nb _ _ _ ns => ns.map (·.2)
  | .ln _ xs => xs
  | _ => []
abbrev En := List (Option Lc)
def Lc.own : Lc → Bool
  | .ls _ _ => true
  | .dk _ _ => true
  | .dt _ _ => true
  | .ob _ _ _ => true
  | .nb _ _ _ _ => true
  | .ln _ _ => true
  | _ => false
def Lc.tag : Lc → Option Nat
  | .ls p _ => p
  | .dk p _ => p
  | .dt p _ => p
  | .ob p _ _ => p
  | .nb p _ _ _ => p
  | .ln p _ => p
  | _ => none
def Lc.retag (q : Option Nat) : Lc → Lc
  | .ls _ xs => .ls q xs
  | .dk _ xs => .dk q xs
  | .dt _ xs => .dt q xs
  | .ob _ C fs => .ob q C fs
  | .nb _ C fs ns => .nb q C fs ns
  | .ln _ xs => .ln q xs
  | l => l
theorem Lc.retag_fp (q : Option Nat) (l : Lc) : (l.retag q).fp = l.fp := by cases l <;> rfl
def getN (f : Str) : List (Str × Addr × List PD) → Option (Addr × List PD)
  | [] => none
  | (g, z) :: r => if g = f then some z else getN f r
def noF (f : Str) : List (Str × PD) → Bool
  | [] => true
  | (g, _) :: r => !(decide (g = f)) && noF f r
theorem getN_mem {f : Str} {y : Addr × List PD} : ∀ {ns : List (Str × Addr × List PD)}, getN f ns = some y → (f, y) ∈ ns
  | (g, z) :: r, h => by
    unfold getN at h
    by_cases e : g = f
    · rw [if_pos e] at h; cases h; rw [e]; exact List.mem_cons_self
    · rw [if_neg e] at h; exact List.mem_cons_of_mem _ (getN_mem h)
theorem Lc.retag_own (q : Option Nat) (l : Lc) : (l.retag q).own = l.own := by cases l <;> rfl
theorem Lc.retag_tag (q : Option Nat) (l : Lc) (h : l.own = true) : (l.retag q).tag = q := by cases l <;> first | rfl | (simp [Lc.own] at h)
structure Gm where
  H0 : Hp
  F0 : Hp
  io : List Addr
  nio : List (Nat × Addr) := []
def Gm.pin (G : Gm) (p : Addr) (o : HO) : Gm := { G with H0 := fun b => if b = p then some o else G.H0 b }
class Pn where
  P : Gm → Prop
  pin : ∀ {G : Gm} {p : Addr} {o : HO}, P G → G.H0 p = none → G.F0 p = none → p ∉ G.io → (∀ us, o ≠ .tup us) → P (G.pin p o)
def Pn.any : Pn := ⟨fun _ => True, fun _ _ _ _ _ => trivial⟩
inductive Pins (G0 : Gm) : Gm → Prop
  | refl : Pins G0 G0
  | pin {G : Gm} {p : Addr} {o : HO} : Pins G0 G → G.H0 p = none → G.F0 p = none → p ∉ G.io → (∀ us, o ≠ .tup us) → Pins G0 (G.pin p o)
def Pn.at_ (G0 : Gm) : Pn := ⟨Pins G0, .pin⟩
def DKv {κ : Type} (K : PySem.W.Frag) (F : Hp) : List (κ × V) → List (κ × PD) → Prop := Paired fun p q => p.1 = q.1 ∧ Df K F p.2 q.2
def HoOk (K : PySem.W.Frag) (F : Hp) : Lc → HO → Prop
  | .ls _ xs, .lst vs => DfA K F vs xs
  | .dk _ kvs, .dK us => DKv K F us kvs
  | .dt _ kvs, .dT us => DKv K F us kvs
  | .ob _ C fs, .ins D _ us => C = D ∧ DKv K F us fs
  | .nb _ C fs ns, .ins D _ us => C = D ∧ (∃ u1, us = u1 ++ ns.map (fun n => (n.1, V.ref n.2.1)) ∧ DKv K F u1 fs) ∧ (ns.map (·.2.1)).Nodup
  | .ln _ xs, .lst vs => vs = xs.map (fun x => V.ref x.1) ∧ (xs.map (·.1)).Nodup
  | _, _ => False
theorem DKv.mono {κ : Type} {K : PySem.W.Frag} {F F' : Hp} (e : Same F F') {us : List (κ × V)} {kvs : List (κ × PD)} (h : DKv K F us kvs) : DKv K F' us kvs :=
  Paired.mapP h fun _ _ z => ⟨z.1, z.2.mono e⟩
theorem HoOk.mono {K : PySem.W.Frag} {F F' : Hp} {l : Lc} {o : HO} (e : Same F F') (h : HoOk K F l o) : HoOk K F' l o := by
  cases l <;> cases o <;> first | exact False.elim h | exact DfA.mono e h | exact DKv.mono e h | exact ⟨h.1, DKv.mono e h.2⟩ | exact ⟨h.1, ⟨h.2.1.choose, h.2.1.choose_spec.1, DKv.mono e h.2.1.choose_spec.2⟩, h.2.2⟩ | exact h
theorem HoOk.retag {K : PySem.W.Frag} {F : Hp} {l : Lc} {o : HO} (q : Option Nat) (h : HoOk K F l o) : HoOk K F (l.retag q) o := by
  cases l <;> cases o <;> first | exact False.elim h | exact h
theorem HoOk.own {K : PySem.W.Frag} {F : Hp} {l : Lc} {o : HO} (h : HoOk K F l o) : l.own = true := by
  cases l <;> cases o <;> first | exact False.elim h | rfl
def OwnP (G : Gm) : Option Nat → Addr → Prop
  | none, a => G.H0 a = none
  | some i, a => G.io[i]? = some a
structure At (K : PySem.W.Frag) (G : Gm) (F H : Hp) (l : Lc) (a : Addr) : Prop where
  nf : F a = none
  ow : OwnP G l.tag a
  ob : ∃ o, H a = some o ∧ HoOk K F l o
def ScOk (K : PySem.W.Frag) (F : Hp) (xs : List PD) (v : V) : Prop := ∃ a vs, v = .ref a ∧ SqL K F a vs ∧ DfA K F vs xs
theorem ScOk.mono {K : PySem.W.Frag} {F F' : Hp} {xs : List PD} {v : V} (e : Same F F') (h : ScOk K F xs v) : ScOk K F' xs v := by
  obtain ⟨a, vs, h1, h2, h3⟩ := h
  exact ⟨a, vs, h1, e.seq h2, h3.mono e⟩
def SlotOk (K : PySem.W.Frag) (G : Gm) (F H : Hp) : Lc → Option (Option V) → Prop
  | .d x, s => ∃ v, s = some (some v) ∧ Df K F v x
  | .sc xs, s => ∃ v, s = some (some v) ∧ ScOk K F xs v
  | l, s => ∃ a, s = some (some (.ref a)) ∧ At K G F H l a
structure Ns (K : PySem.W.Frag) (G : Gm) (F H : Hp) (t : Option Nat) (b : Addr) (xs : List PD) : Prop where
  nf : F b = none
  ow : G.H0 b = none ∨ ∃ k, t = some k ∧ (k, b) ∈ G.nio ∧ b ∈ G.io
  ob : ∃ vs, H b = some (.lst vs) ∧ DfA K F vs xs
def NoN (ρ : En) (p : Addr) : Prop := ∀ (j : Nat) (m : Lc) (ys : List PD), ρ[j]? = some (some m) → (p, ys) ∉ m.fp
def NoS (ρ : En) (σ : L2.St) (p : Addr) : Prop := ∀ (j : Nat) (m : Lc), ρ[j]? = some (some m) → m.own = true → σ[j]? ≠ some (some (.ref p))
structure Rel [Pn] (K : PySem.W.Frag) (G : Gm) (ρ : En) (F : Hp) (σ : L2.St) (H : Hp) : Prop where
  fh : Same F H
  ff : Same G.F0 F
  fr : ∀ b o, G.H0 b = some o → b ∉ G.io → H b = some o
  nw : ∀ b, F b ≠ none → G.F0 b = none → G.H0 b = none ∨ ∃ us, F b = some (.tup us)
  ih : ∀ a, a ∈ G.io → H a ≠ none ∧ G.H0 a ≠ none
  len : σ.length = ρ.length
  sl : ∀ (i : Nat) (l : Lc), ρ[i]? = some (some l) → SlotOk K G F H l σ[i]?
  ds : ∀ (i j : Nat) (l m : Lc) (v : V), ρ[i]? = some (some l) → ρ[j]? = some (some m) → l.own = true → m.own = true → σ[i]? = some (some v) → σ[j]? = some (some v) → i = j
  ok : Pn.P G
  ns : ∀ (i : Nat) (l : Lc) (b : Addr) (xs : List PD), ρ[i]? = some (some l) → (b, xs) ∈ l.fp → Ns K G F H l.tag b xs ∧ ∀ (j : Nat) (m : Lc), ρ[j]? = some (some m) → (m.own = true → σ[j]? ≠ some (some (.ref b))) ∧ ∀ ys, (b, ys) ∈ m.fp → j = i
structure Grow (F H F' H' : Hp) : Prop where
  ff : Same F F'
  hh : Same H H'
  fh : Same F' H'
  nw : ∀ b, F' b ≠ none → F b = none → H b = none ∨ ∃ us, F' b = some (.tup us)
section
variable {K : PySem.W.Frag} {G : Gm} {ρ : En} {F F' H H' F1 H1 : Hp} {σ : L2.St} {i j : Nat} {l m : Lc} {a p : Addr} {v : V} {x : PD} {o : HO}
theorem Grow.refl (h : Same F H) : Grow F H F H := ⟨Same.refl _, Same.refl _, h, fun b h1 h2 => absurd h2 h1⟩
theorem Grow.trans (g : Grow F H F1 H1) (k : Grow F1 H1 F' H') : Grow F H F' H' := by
  refine ⟨g.ff.trans k.ff, g.hh.trans k.hh, k.fh, fun b h1 h2 => ?_⟩
  cases e : F1 b with
  | none =>
    rcases k.nw b h1 e with z | z
    · exact .inl (g.hh.free z)
    · exact .inr z
  | some u =>
    rcases g.nw b (by rw [e]; simp) h2 with z | ⟨us, z⟩
    · exact .inl z
    · exact .inr ⟨us, k.ff _ _ z⟩
theorem same_new (h : H p = none) (o : HO) : Same H (upd H p o) := fun b u q => by rw [upd_ne (ne_of_none q h)]; exact q
theorem Grow.frozen (h : Same F H) (hp : H p = none) (o : HO) : Grow F H (upd F p o) (upd H p o) := by
  refine ⟨same_new (h.free hp) o, same_new hp o, fun b u e => ?_, fun b h1 h2 => ?_⟩
  · by_cases hb : b = p
    · subst hb; rw [upd_same] at e ⊢; exact e
    · rw [upd_ne hb] at e ⊢; exact h _ _ e
  · by_cases hb : b = p
    · subst hb; exact .inl hp
    · rw [upd_ne hb] at h1; exact absurd h2 h1
theorem Grow.owned (h : Same F H) (hp : H p = none) (o : HO) : Grow F H F (upd H p o) :=
  ⟨Same.refl _, same_new hp o, h.trans (same_new hp o), fun b h1 h2 => absurd h2 h1⟩
theorem own_slot (h : l.own = true) {s : Option (Option V)} : SlotOk K G F H l s ↔ ∃ a, s = some (some (.ref a)) ∧ At K G F H l a := by
  cases l <;> first | exact Iff.rfl | (simp [Lc.own] at h)
theorem not_own (h : l.own = false) : (∃ x, l = .d x) ∨ ∃ x, l = .sc x := by
  cases l with
  | d x => exact .inl ⟨x, rfl⟩
  | sc v => exact .inr ⟨v, rfl⟩
  | ls p xs => simp [Lc.own] at h
  | dk p xs => simp [Lc.own] at h
  | dt p xs => simp [Lc.own] at h
  | ob p C fs => simp [Lc.own] at h
  | nb p C fs ns => simp [Lc.own] at h
  | ln p xs => simp [Lc.own] at h
theorem Lc.fp_own (h : l.own = false) : l.fp = [] := by cases l <;> first | rfl | (simp [Lc.own] at h)
theorem SlotOk.some {s : Option (Option V)} (h : SlotOk K G F H l s) : ∃ v, s = some (some v) := by
  cases l with
  | d x => obtain ⟨v, e, _⟩ := h; exact ⟨v, e⟩
  | sc xs => obtain ⟨v, e, _⟩ := h; exact ⟨v, e⟩
  | ls p xs => obtain ⟨a, e, _⟩ := h; exact ⟨_, e⟩
  | dk p xs => obtain ⟨a, e, _⟩ := h; exact ⟨_, e⟩
  | dt p xs => obtain ⟨a, e, _⟩ := h; exact ⟨_, e⟩
  | ob p C fs => obtain ⟨a, e, _⟩ := h; exact ⟨_, e⟩
  | nb p C fs ns => obtain ⟨a, e, _⟩ := h; exact ⟨_, e⟩
  | ln p xs => obtain ⟨a, e, _⟩ := h; exact ⟨_, e⟩
theorem At.grow (h : At K G F H l a) (g : Grow F H F' H') : At K G F' H' l a := by
  obtain ⟨nf, ow, ob, e, ok⟩ := h
  refine ⟨?_, ow, ob, g.hh _ _ e, ok.mono g.ff⟩
  cases q : F' a with
  | none => rfl
  | some u =>
    rcases g.nw a (by rw [q]; simp) nf with z | ⟨us, z⟩
    · rw [e] at z; cases z
    · have z := g.fh _ _ z
      rw [g.hh _ _ e] at z
      cases z
      cases l <;> exact False.elim ok
theorem Ns.grow {t : Option Nat} {b : Addr} {xs : List PD} (h : Ns K G F H t b xs) (g : Grow F H F' H') : Ns K G F' H' t b xs := by
  obtain ⟨nf, ow, vs, e, ok⟩ := h
  refine ⟨?_, ow, vs, g.hh _ _ e, ok.mono g.ff⟩
  cases q : F' b with
  | none => rfl
  | some u =>
    rcases g.nw b (by rw [q]; simp) nf with z | ⟨us, z⟩
    · rw [e] at z; cases z
    · have z := g.fh _ _ z
      rw [g.hh _ _ e] at z
      cases z
theorem SlotOk.grow {s : Option (Option V)} (h : SlotOk K G F H l s) (g : Grow F H F' H') : SlotOk K G F' H' l s := by
  cases hl : l.own with
  | true => rw [own_slot hl] at h ⊢; obtain ⟨a, e, z⟩ := h; exact ⟨a, e, z.grow g⟩
  | false =>
    rcases not_own hl with ⟨x, rfl⟩ | ⟨v, rfl⟩
    · obtain ⟨v, e, z⟩ := h; exact ⟨v, e, z.mono g.ff⟩
    · obtain ⟨v, e, z⟩ := h; exact ⟨v, e, z.mono g.ff⟩
theorem Rel.h0 [Pn] (R : Rel K G ρ F σ H) (h : H p = none) : G.H0 p = none := by
  cases e : G.H0 p with
  | none => rfl
  | some u =>
    by_cases hp : p ∈ G.io
    · exact absurd h (R.ih p hp).1
    · have := R.fr p u e hp; rw [h] at this; cases this
theorem Rel.grow [Pn] (R : Rel K G ρ F σ H) (g : Grow F H F' H') : Rel K G ρ F' σ H' := by
  refine ⟨g.fh, R.ff.trans g.ff, fun b o e hb => g.hh _ _ (R.fr b o e hb), fun b h1 h2 => ?_, fun a ha => ?_, R.len, fun i l e => (R.sl i l e).grow g, R.ds, R.ok, fun i l b xs e h => ⟨(R.ns i l b xs e h).1.grow g, (R.ns i l b xs e h).2⟩⟩
  · cases e : F b with
    | none =>
      rcases g.nw b h1 e with z | z
      · exact .inl (R.h0 z)
      · exact .inr z
    | some u =>
      rcases R.nw b (by rw [e]; simp) h2 with z | ⟨us, z⟩
      · exact .inl z
      · exact .inr ⟨us, g.ff _ _ z⟩
  · refine ⟨?_, (R.ih a ha).2⟩
    cases e : H a with
    | none => exact absurd e (R.ih a ha).1
    | some u => rw [g.hh _ _ e]; simp
theorem set_get {α : Type} {xs : List α} {i j : Nat} {y z : α} (h : (xs.set i y)[j]? = some z) : (j = i ∧ i < xs.length ∧ z = y) ∨ (j ≠ i ∧ xs[j]? = some z) := by
  by_cases hj : j = i
  · subst hj
    by_cases hl : j < xs.length
    · rw [List.getElem?_set_self hl] at h; cases h; exact .inl ⟨rfl, hl, rfl⟩
    · rw [List.getElem?_eq_none (by rw [List.length_set]; omega)] at h; cases h
  · rw [List.getElem?_set_ne (Ne.symm hj)] at h; exact .inr ⟨hj, h⟩
def NsR (K : PySem.W.Frag) (G : Gm) (F H : Hp) (ρ : En) (σ : L2.St) (l : Lc) (v : V) : Prop := ∀ (b : Addr) (xs : List PD), (b, xs) ∈ l.fp → Ns K G F H l.tag b xs ∧ v ≠ .ref b ∧ NoS ρ σ b ∧ NoN ρ b
theorem NsR.nil {v : V} (h : l.fp = []) : NsR K G F H ρ σ l v := fun b xs z => by rw [h] at z; cases z
theorem Rel.store [Pn] (R : Rel K G ρ F σ H) (i : Nat) (h : SlotOk K G F H l (some (some v))) (hf : l.own = true → ∀ (j : Nat) (m : Lc), ρ[j]? = some (some m) → m.own = true → σ[j]? ≠ some (some v)) (hn : l.own = true → (∀ a, v = .ref a → NoN ρ a) ∧ NsR K G F H ρ σ l v) :
    Rel K G (ρ.set i (some l)) F (σ.set i (some v)) H := by
  have hfp : ∀ b xs, (b, xs) ∈ l.fp → l.own = true := fun b xs z => by
    cases ho : l.own with
    | true => rfl
    | false => rw [Lc.fp_own ho] at z; cases z
  refine ⟨R.fh, R.ff, R.fr, R.nw, R.ih, by rw [List.length_set, List.length_set]; exact R.len, fun j m e => ?_, fun j k m n u e1 e2 h1 h2 e3 e4 => ?_, R.ok, fun j m b xs e hb => ?_⟩
  · rcases set_get e with ⟨rfl, hl, z⟩ | ⟨hj, e⟩
    · cases z; rw [List.getElem?_set_self (by rw [R.len]; exact hl)]; exact h
    · rw [List.getElem?_set_ne (Ne.symm hj)]; exact R.sl j m e
  · rcases set_get e1 with ⟨rfl, hl, z⟩ | ⟨hj, e1'⟩
    · rcases set_get e2 with ⟨rfl, hl', z'⟩ | ⟨hk, e2'⟩
      · rfl
      · cases z
        rw [List.getElem?_set_self (by rw [R.len]; exact hl)] at e3
        rw [List.getElem?_set_ne (Ne.symm hk)] at e4
        have : v = u := by simpa using e3
        subst this
        exact absurd e4 (hf h1 k n e2' h2)
    · rcases set_get e2 with ⟨rfl, hl', z'⟩ | ⟨hk, e2'⟩
      · cases z'
        rw [List.getElem?_set_self (by rw [R.len]; exact hl')] at e4
        rw [List.getElem?_set_ne (Ne.symm hj)] at e3
        have : v = u := by simpa using e4
        subst this
        exact absurd e3 (hf h2 j m e1' h1)
      · rw [List.getElem?_set_ne (Ne.symm hj)] at e3
        rw [List.getElem?_set_ne (Ne.symm hk)] at e4
        exact R.ds j k m n u e1' e2' h1 h2 e3 e4
  · rcases set_get e with ⟨rfl, hl, z⟩ | ⟨hj, eo⟩
    · cases z
      obtain ⟨n1, n2, n3, n4⟩ := (hn (hfp b xs hb)).2 b xs hb
      refine ⟨n1, fun k n e2 => ?_⟩
      rcases set_get e2 with ⟨rfl, hl', z'⟩ | ⟨hk, e2'⟩
      · cases z'
        rw [List.getElem?_set_self (by rw [R.len]; exact hl)]
        exact ⟨fun _ q => n2 (by simpa using q), fun _ _ => rfl⟩
      · rw [List.getElem?_set_ne (Ne.symm hk)]
        exact ⟨n3 k n e2', fun ys q => absurd q (n4 k n ys e2')⟩
    · obtain ⟨n1, n2⟩ := R.ns j m b xs eo hb
      refine ⟨n1, fun k n e2 => ?_⟩
      rcases set_get e2 with ⟨rfl, hl', z'⟩ | ⟨hk, e2'⟩
      · cases z'
        rw [List.getElem?_set_self (by rw [R.len]; exact hl')]
        refine ⟨fun ho q => ?_, fun ys q => ?_⟩
        · have q : v = .ref b := by simpa using q
          exact (hn ho).1 b q j m xs eo hb
        · exact absurd hb (((hn (hfp b ys q)).2 b ys q).2.2.2 j m xs eo)
      · rw [List.getElem?_set_ne (Ne.symm hk)]
        exact n2 k n e2'
theorem Rel.store_d [Pn] (R : Rel K G ρ F σ H) (i : Nat) (h : Df K F v x) : Rel K G (ρ.set i (some (.d x))) F (σ.set i (some v)) H :=
  R.store i ⟨v, rfl, h⟩ (fun z => by cases z) fun z => by cases z
theorem Rel.weak [Pn] (R : Rel K G ρ F σ H) {ρ' : En} {σ' : L2.St} (hl : σ'.length = ρ'.length) (w : ∀ (i : Nat) (l : Lc), ρ'[i]? = some (some l) → ρ[i]? = some (some l) ∧ σ'[i]? = σ[i]?) : Rel K G ρ' F σ' H := by
  refine ⟨R.fh, R.ff, R.fr, R.nw, R.ih, hl, fun i l e => ?_, fun i j l m v e1 e2 h1 h2 e3 e4 => ?_, R.ok, fun i l b xs e hb => ⟨(R.ns i l b xs (w i l e).1 hb).1, fun j m e2 => by rw [(w j m e2).2]; exact (R.ns i l b xs (w i l e).1 hb).2 j m (w j m e2).1⟩⟩
  · obtain ⟨a, b⟩ := w i l e; rw [b]; exact R.sl i l a
  · obtain ⟨a, b⟩ := w i l e1
    obtain ⟨a', b'⟩ := w j m e2
    rw [b] at e3; rw [b'] at e4
    exact R.ds i j l m v a a' h1 h2 e3 e4
theorem Rel.drop [Pn] (R : Rel K G ρ F σ H) (i : Nat) : Rel K G (ρ.set i none) F σ H := by
  refine R.weak (by rw [List.length_set]; exact R.len) fun j l e => ?_
  rcases set_get e with ⟨_, _, z⟩ | ⟨_, e⟩
  · cases z
  · exact ⟨e, rfl⟩
theorem Rel.at_ [Pn] (R : Rel K G ρ F σ H) (e : ρ[i]? = some (some l)) (h : l.own = true) : ∃ a, σ[i]? = some (some (.ref a)) ∧ At K G F H l a := (own_slot h).mp (R.sl i l e)
theorem Rel.noN_free [Pn] (R : Rel K G ρ F σ H) (h : H p = none) : NoN ρ p := fun j m ys e z => by
  obtain ⟨vs, e1, _⟩ := (R.ns j m p ys e z).1.ob
  rw [h] at e1; cases e1
theorem Rel.noS_free [Pn] (R : Rel K G ρ F σ H) (h : H p = none) : NoS ρ σ p := fun j m e hm z => by
  obtain ⟨a, e1, _, _, ob, eo, _⟩ := R.at_ e hm
  rw [z] at e1
  have : p = a := by simpa using e1
  subst this
  rw [h] at eo; cases eo
theorem Rel.noN_at [Pn] (R : Rel K G ρ F σ H) (e : ρ[i]? = some (some l)) (ho : l.own = true) (es : σ[i]? = some (some (.ref a))) : NoN ρ a := fun j m ys q z => ((R.ns j m a ys q z).2 i l e).1 ho es
theorem NoN.sub {ρ' : En} (h : NoN ρ p) (w : ∀ (j : Nat) (m : Lc), ρ'[j]? = some (some m) → ρ[j]? = some (some m)) : NoN ρ' p := fun j m ys e => h j m ys (w j m e)
theorem NoN.drop (h : NoN ρ p) (i : Nat) : NoN (ρ.set i none) p := h.sub fun j m e => by
  rcases set_get e with ⟨_, _, z⟩ | ⟨_, e⟩
  · cases z
  · exact e
theorem At.pin (h : At K G F H l a) (hp : a ≠ p) (o : HO) : At K (G.pin p o) F H l a := by
  refine ⟨h.nf, ?_, h.ob⟩
  have ow := h.ow
  cases e : l.tag with
  | none =>
    rw [e] at ow
    show (if a = p then some o else G.H0 a) = none
    rw [if_neg hp]; exact ow
  | some k => rw [e] at ow; exact ow
theorem Rel.pin [Pn] (R : Rel K G ρ F σ H) (hF : F p = none) (hH : H p = some o) (h0 : G.H0 p = none) (hf : ∀ (j : Nat) (m : Lc), ρ[j]? = some (some m) → m.own = true → σ[j]? ≠ some (some (.ref p))) (hn : NoN ρ p) (no : ∀ us, o ≠ .tup us := by intro _ h; cases h) : Rel K (G.pin p o) ρ F σ H := by
  refine ⟨R.fh, R.ff, fun b u e hb => ?_, fun b h1 h2 => ?_, fun a ha => ⟨(R.ih a ha).1, ?_⟩, R.len, fun i l e => ?_, R.ds, Pn.pin R.ok h0 (R.ff.free hF) (fun z => (R.ih p z).2 h0) no, fun i l b xs e hb => ⟨⟨(R.ns i l b xs e hb).1.nf, ?_, (R.ns i l b xs e hb).1.ob⟩, (R.ns i l b xs e hb).2⟩⟩
  · have e : (if b = p then some o else G.H0 b) = some u := e
    by_cases hbp : b = p
    · subst hbp; rw [if_pos rfl] at e; cases e; exact hH
    · rw [if_neg hbp] at e; exact R.fr b u e hb
  · show (if b = p then some o else G.H0 b) = none ∨ _
    have hbp : b ≠ p := fun z => h1 (by rw [z]; exact hF)
    rw [if_neg hbp]; exact R.nw b h1 h2
  · show (if a = p then some o else G.H0 a) ≠ none
    have := (R.ih a ha).2
    by_cases hap : a = p
    · rw [if_pos hap]; simp
    · rw [if_neg hap]; exact this
  · have z := R.sl i l e
    cases hl : l.own with
    | true =>
      rw [own_slot hl] at z ⊢
      obtain ⟨c, e1, z⟩ := z
      exact ⟨c, e1, z.pin (fun q => hf i l e hl (by rw [e1, q])) o⟩
    | false =>
      rcases not_own hl with ⟨x, rfl⟩ | ⟨v, rfl⟩
      · exact z
      · exact z
  · show (if b = p then some o else G.H0 b) = none ∨ ∃ k, l.tag = some k ∧ (k, b) ∈ G.nio ∧ b ∈ G.io
    have hbp : b ≠ p := fun z => hn i l xs e (by rw [← z]; exact hb)
    rw [if_neg hbp]; exact (R.ns i l b xs e hb).1.ow
theorem Rel.unpinN [Pn] (R : Rel K (G.pin p o) ρ F σ H) (hio : p ∉ G.io) : NoN ρ p := fun j m ys e z => by
  rcases (R.ns j m p ys e z).1.ow with w | w
  · have w : (if p = p then some o else G.H0 p) = none := w
    rw [if_pos rfl] at w; cases w
  · obtain ⟨_, _, _, w⟩ := w; exact hio w
theorem Rel.unpin [Pn] (ok : Pn.P G) (R : Rel K (G.pin p o) ρ F σ H) (h0 : G.H0 p = none) (f0 : G.F0 p = none) (hio : p ∉ G.io) (no : ∀ us, o ≠ .tup us := by intro _ h; cases h) :
    Rel K G ρ F σ H ∧ F p = none ∧ H p = some o ∧ ∀ (j : Nat) (m : Lc), ρ[j]? = some (some m) → m.own = true → σ[j]? ≠ some (some (.ref p)) := by
  have hp : (G.pin p o).H0 p = some o := if_pos rfl
  have nt : ∀ {l : Lc} {a : Addr}, At K (G.pin p o) F H l a → a ≠ p := fun {l a} z q => by
    subst q
    have ow := z.ow
    cases e : l.tag with
    | none => rw [e] at ow; have ow : (G.pin a o).H0 a = none := ow; rw [hp] at ow; cases ow
    | some k => rw [e] at ow; exact hio (List.mem_of_getElem? ow)
  have ne : ∀ (j : Nat) (m : Lc), ρ[j]? = some (some m) → m.own = true → σ[j]? ≠ some (some (.ref p)) := fun j m e hm z => by
    obtain ⟨a, e1, q⟩ := R.at_ e hm
    rw [z] at e1
    have : p = a := by simpa using e1
    exact nt q this.symm
  have fp : F p = none := by
    cases e : F p with
    | none => rfl
    | some u =>
      rcases R.nw p (by rw [e]; simp) f0 with z | ⟨us, z⟩
      · rw [hp] at z; cases z
      · have z := R.fh _ _ z
        rw [R.fr p o hp hio] at z
        cases z
        exact absurd rfl (no us)
  refine ⟨⟨R.fh, R.ff, fun b u e hb => ?_, fun b h1 h2 => ?_, fun a ha => ⟨(R.ih a ha).1, ?_⟩, R.len, fun i l e => ?_, R.ds, ok, fun i l b xs e hb => ⟨⟨(R.ns i l b xs e hb).1.nf, ?_, (R.ns i l b xs e hb).1.ob⟩, (R.ns i l b xs e hb).2⟩⟩, fp, R.fr p o hp hio, ne⟩
  · refine R.fr b u ?_ hb
    show (if b = p then some o else G.H0 b) = some u
    rw [if_neg (fun z => by rw [z, h0] at e; cases e)]; exact e
  · rcases R.nw b h1 h2 with this | this
    · have this : (if b = p then some o else G.H0 b) = none := this
      by_cases hbp : b = p
      · rw [hbp]; exact .inl h0
      · rw [if_neg hbp] at this; exact .inl this
    · exact .inr this
  · have := (R.ih a ha).2
    have this : (if a = p then some o else G.H0 a) ≠ none := this
    have hap : a ≠ p := fun z => hio (by rw [← z]; exact ha)
    rw [if_neg hap] at this; exact this
  · have z := R.sl i l e
    cases hl : l.own with
    | true =>
      rw [own_slot hl] at z ⊢
      obtain ⟨c, e1, z⟩ := z
      have hc := nt z
      refine ⟨c, e1, z.nf, ?_, z.ob⟩
      have ow := z.ow
      cases q : l.tag with
      | none =>
        rw [q] at ow
        have ow : (if c = p then some o else G.H0 c) = none := ow
        rw [if_neg hc] at ow; exact ow
      | some k => rw [q] at ow; exact ow
    | false =>
      rcases not_own hl with ⟨x, rfl⟩ | ⟨v, rfl⟩
      · exact z
      · exact z
  · have hbp : b ≠ p := fun z => R.unpinN hio i l xs e (by rw [← z]; exact hb)
    rcases (R.ns i l b xs e hb).1.ow with w | w
    · have w : (if b = p then some o else G.H0 b) = none := w
      rw [if_neg hbp] at w; exact .inl w
    · exact .inr w
theorem HoOk.fp_nodup (ok : HoOk K F l o) : (l.fp.map (·.1)).Nodup := by
  cases l <;> first | exact List.nodup_nil | skip
  · cases o <;> first | exact False.elim ok | skip
    have := ok.2.2
    show ((List.map _ _).map _).Nodup
    rw [List.map_map]; exact this
  · cases o <;> first | exact False.elim ok | exact ok.2
def Gm.pins (G : Gm) : List (Addr × HO) → Gm
  | [] => G
  | p :: r => (G.pin p.1 p.2).pins r
theorem Gm.pin_ne {q : Addr} (h : q ≠ p) : (G.pin p o).H0 q = G.H0 q := if_neg h
theorem Rel.pins [Pn] : ∀ {L : List (Addr × HO)} {G : Gm}, (L.map (·.1)).Nodup → (∀ q ∈ L, F q.1 = none ∧ H q.1 = some q.2 ∧ G.H0 q.1 = none ∧ NoS ρ σ q.1 ∧ NoN ρ q.1 ∧ ∀ us, q.2 ≠ .tup us) → Rel K G ρ F σ H → Rel K (G.pins L) ρ F σ H
  | [], G, _, _, R => R
  | q :: r, G, nd, h, R => by
    rw [List.map_cons, List.nodup_cons] at nd
    obtain ⟨h1, h2, h3, h4, h5, h6⟩ := h q List.mem_cons_self
    refine Rel.pins (L := r) (G := G.pin q.1 q.2) nd.2 (fun z hz => ?_) (R.pin h1 h2 h3 h4 h5 h6)
    obtain ⟨g1, g2, g3, g4, g5, g6⟩ := h z (List.mem_cons_of_mem _ hz)
    exact ⟨g1, g2, by rw [Gm.pin_ne fun e => nd.1 (by rw [← e]; exact List.mem_map_of_mem hz)]; exact g3, g4, g5, g6⟩
theorem Rel.unpins [Pn] : ∀ {L : List (Addr × HO)} {G : Gm}, Pn.P G → (L.map (·.1)).Nodup → (∀ q ∈ L, G.H0 q.1 = none ∧ G.F0 q.1 = none ∧ q.1 ∉ G.io ∧ ∀ us, q.2 ≠ .tup us) → Rel K (G.pins L) ρ F σ H →
    Rel K G ρ F σ H ∧ ∀ q ∈ L, F q.1 = none ∧ H q.1 = some q.2 ∧ NoS ρ σ q.1 ∧ NoN ρ q.1
  | [], G, _, _, _, R => ⟨R, fun _ z => absurd z List.not_mem_nil⟩
  | q :: r, G, ok, nd, h, R => by
    rw [List.map_cons, List.nodup_cons] at nd
    obtain ⟨h1, h2, h3, h4⟩ := h q List.mem_cons_self
    obtain ⟨R1, w⟩ := Rel.unpins (L := r) (G := G.pin q.1 q.2) (Pn.pin ok h1 h2 h3 h4) nd.2 (fun z hz => by
      obtain ⟨g1, g2, g3, g4⟩ := h z (List.mem_cons_of_mem _ hz)
      exact ⟨by rw [Gm.pin_ne fun e => nd.1 (by rw [← e]; exact List.mem_map_of_mem hz)]; exact g1, g2, g3, g4⟩) R
    obtain ⟨R2, f1, f2, f3⟩ := R1.unpin ok h1 h2 h3 h4
    refine ⟨R2, fun z hz => ?_⟩
    rcases List.mem_cons.mp hz with rfl | hz
    · exact ⟨f1, f2, f3, R1.unpinN h3⟩
    · exact w z hz
def Lc.pd : Lc → PD
  | .d x => x
  | .ls _ xs => .list xs
  | .dk _ kvs => .dict (kvs.map fun p => (keyD p.1, p.2))
  | .ob _ C fs => .dict ((.none, .int (C : Int)) :: fs.map fun p => (.str p.1, p.2))
  | _ => .none
def Lc.fz : Lc → Bool
  | .d _ => true
  | .ls none _ => true
  | .dk none _ => true
  | .ob none _ _ => true
  | _ => false
theorem DKv.dfk {us : List (Key × V)} {kvs : List (Key × PD)} (h : DKv K F us kvs) : DfK K F us (kvs.map fun p => (keyD p.1, p.2)) := by
  induction us generalizing kvs with
  | nil => cases h; exact .nil
  | cons u us ih =>
    cases h with
    | cons a b =>
      obtain ⟨k, v⟩ := u
      obtain ⟨a1, a2⟩ := a
      rename_i q r
      obtain ⟨k', d⟩ := q
      have : k = k' := a1
      subst this
      exact .cons a2 (ih b)
theorem DKv.dff {us : List (Str × V)} {fs : List (Str × PD)} (h : DKv K F us fs) : DfF K F us (fs.map fun p => (.str p.1, p.2)) := by
  induction us generalizing fs with
  | nil => cases h; exact .nil
  | cons u us ih =>
    cases h with
    | cons a b =>
      obtain ⟨k, v⟩ := u
      obtain ⟨a1, a2⟩ := a
      rename_i q r
      obtain ⟨k', d⟩ := q
      have : k = k' := a1
      subst this
      exact .cons a2 (ih b)
theorem HoOk.df (ok : HoOk K F l o) (hz : l.fz = true) (e : H a = some o) (s : Same F H) : Df K H (.ref a) l.pd := by
  cases l with
  | d x => cases o <;> exact False.elim ok
  | sc v => cases o <;> exact False.elim ok
  | ls p xs =>
    cases o with
    | lst vs => exact .lst (.inl e) (DfA.mono s ok)
    | _ => exact False.elim ok
  | dk p xs =>
    cases o with
    | dK vs => exact .dk (.inl e) ((DKv.mono s ok).dfk)
    | _ => exact False.elim ok
  | dt p xs => cases p <;> simp [Lc.fz] at hz
  | ob p C fs =>
    cases o with
    | ins D dx us =>
      obtain ⟨rfl, h⟩ := ok
      exact .ins e ((DKv.mono s h).dff)
    | _ => exact False.elim ok
  | nb p C fs ns => simp [Lc.fz] at hz
  | ln p xs => simp [Lc.fz] at hz
theorem Rel.freeze [Pn] (R : Rel K G ρ F σ H) (nf : F a = none) (n0 : G.H0 a = none) (e : H a = some o) (hf : ∀ (j : Nat) (m : Lc), ρ[j]? = some (some m) → m.own = true → σ[j]? ≠ some (some (.ref a))) (hn : NoN ρ a) : Rel K G ρ (upd F a o) σ H ∧ Same F (upd F a o) := by
  have sf : Same F (upd F a o) := same_new nf o
  refine ⟨⟨fun b u q => ?_, R.ff.trans sf, R.fr, fun b h1 h2 => ?_, R.ih, R.len, fun j m q => ?_, R.ds, R.ok, fun i l b xs q hb => ⟨⟨?_, (R.ns i l b xs q hb).1.ow, ?_⟩, (R.ns i l b xs q hb).2⟩⟩, sf⟩
  · by_cases hb : b = a
    · subst hb; rw [upd_same] at q; cases q; exact e
    · rw [upd_ne hb] at q; exact R.fh _ _ q
  · by_cases hb : b = a
    · subst hb; exact .inl n0
    · rw [upd_ne hb] at h1
      rw [upd_ne hb]; exact R.nw b h1 h2
  · have z := R.sl j m q
    cases hm : m.own with
    | true =>
      rw [own_slot hm] at z ⊢
      obtain ⟨c, e1, h1, h2, ob, h3, h4⟩ := z
      have hc : c ≠ a := fun q' => hf j m q hm (by rw [e1, q'])
      exact ⟨c, e1, by rw [upd_ne hc]; exact h1, h2, ob, h3, h4.mono sf⟩
    | false =>
      rcases not_own hm with ⟨x, rfl⟩ | ⟨v, rfl⟩
      · obtain ⟨v, e1, h1⟩ := z; exact ⟨v, e1, h1.mono sf⟩
      · obtain ⟨v, e1, h1⟩ := z; exact ⟨v, e1, h1.mono sf⟩
  · have hba : b ≠ a := fun z => hn i l xs q (by rw [← z]; exact hb)
    rw [upd_ne hba]; exact (R.ns i l b xs q hb).1.nf
  · obtain ⟨vs, e1, h1⟩ := (R.ns i l b xs q hb).1.ob
    exact ⟨vs, e1, h1.mono sf⟩
theorem Rel.freeze_slot [Pn] (R : Rel K G ρ F σ H) (e : ρ[i]? = some (some l)) (ho : l.own = true) (hz : l.fz = true) :
    ∃ F' a, Rel K G (ρ.set i (some (.d l.pd))) F' σ H ∧ Same F F' ∧ σ[i]? = some (some (.ref a)) ∧ Df K F' (.ref a) l.pd := by
  obtain ⟨a, es, nf, ow, ob, eo, ok⟩ := R.at_ e ho
  have n0 : G.H0 a = none := by
    cases l with
    | d x => simp [Lc.own] at ho
    | sc x => simp [Lc.own] at ho
    | ls p xs => cases p <;> first | exact ow | (simp [Lc.fz] at hz)
    | dk p xs => cases p <;> first | exact ow | (simp [Lc.fz] at hz)
    | dt p xs => cases p <;> first | exact ow | (simp [Lc.fz] at hz)
    | ob p C xs => cases p <;> first | exact ow | (simp [Lc.fz] at hz)
    | nb p C fs ns => simp [Lc.fz] at hz
    | ln p xs => simp [Lc.fz] at hz
  have R1 : Rel K G (ρ.set i none) F σ H := R.drop i
  obtain ⟨R2, sf⟩ := R1.freeze nf n0 eo (fun j m q hm z => by
    rcases set_get q with ⟨_, _, w⟩ | ⟨hj, q⟩
    · cases w
    · exact hj (R.ds j i m l _ q e hm ho z es)) ((R.noN_at e ho es).drop i)
  have hd : Df K (upd F a ob) (.ref a) l.pd := ok.df hz upd_same sf
  have hi : i < ρ.length := (List.getElem?_eq_some_iff.mp e).1
  have hσ : i < σ.length := by rw [R.len]; exact hi
  have R3 := R2.store_d i hd
  have e1 : (ρ.set i none).set i (some (.d l.pd)) = ρ.set i (some (.d l.pd)) := by rw [List.set_set]
  have e2 : σ.set i (some (.ref a)) = σ := by
    apply List.ext_getElem?
    intro j
    by_cases hj : i = j
    · subst hj; rw [List.getElem?_set_self hσ, es]
    · rw [List.getElem?_set_ne hj]
  rw [e1, e2] at R3
  exact ⟨_, a, R3, sf, es, hd⟩
theorem Rel.write [Pn] (R : Rel K G ρ F σ H) (e : ρ[i]? = some (some l)) (ho : l.own = true) (es : σ[i]? = some (some (.ref a))) (ok : HoOk K F m o) (ht : m.tag = l.tag) (hfp : m.fp = l.fp := by rfl) :
    Rel K G (ρ.set i (some m)) F σ (upd H a o) := by
  obtain ⟨a', es', nf, ow, ob, eo, _⟩ := R.at_ e ho
  rw [es] at es'
  have : a = a' := by simpa using es'
  subst this
  have hi : i < ρ.length := (List.getElem?_eq_some_iff.mp e).1
  have ne : ∀ (j : Nat) (n : Lc), ρ[j]? = some (some n) → n.own = true → j ≠ i → σ[j]? ≠ some (some (.ref a)) := fun j n q hn hj z => hj (R.ds j i n l _ q e hn ho z es)
  refine ⟨fun b u q => ?_, R.ff, fun b u q hb => ?_, R.nw, fun b hb => ?_, by rw [List.length_set]; exact R.len, fun j n q => ?_, fun j k n r u q1 q2 h1 h2 q3 q4 => ?_, R.ok, fun j n b xs q hb => ?_⟩
  · rw [upd_ne (ne_of_none q nf)]; exact R.fh _ _ q
  · have : b ≠ a := by
      rintro rfl
      have ow' : OwnP G l.tag b := ow
      cases ht' : l.tag with
      | none => rw [ht'] at ow'; have ow' : G.H0 b = none := ow'; rw [q] at ow'; cases ow'
      | some k => rw [ht'] at ow'; exact hb (List.mem_of_getElem? ow')
    rw [upd_ne this]; exact R.fr b u q hb
  · refine ⟨?_, (R.ih b hb).2⟩
    by_cases hb' : b = a
    · subst hb'; rw [upd_same]; simp
    · rw [upd_ne hb']; exact (R.ih b hb).1
  · rcases set_get q with ⟨rfl, _, z⟩ | ⟨hj, q⟩
    · cases z
      rw [own_slot ok.own]
      exact ⟨a, es, nf, by rw [ht]; exact ow, o, upd_same, ok⟩
    · have z := R.sl j n q
      cases hn : n.own with
      | true =>
        rw [own_slot hn] at z ⊢
        obtain ⟨c, e1, h1, h2, u, h3, h4⟩ := z
        have hc : c ≠ a := fun w => ne j n q hn hj (by rw [e1, w])
        exact ⟨c, e1, h1, h2, u, by rw [upd_ne hc]; exact h3, h4⟩
      | false =>
        rcases not_own hn with ⟨x, rfl⟩ | ⟨v, rfl⟩
        · exact z
        · exact z
  · have old : ∀ {j : Nat} {n : Lc}, (ρ.set i (some m))[j]? = some (some n) → n.own = true → ∃ n', ρ[j]? = some (some n') ∧ n'.own = true := fun {j n} q hn => by
      rcases set_get q with ⟨rfl, _, z⟩ | ⟨hj, q⟩
      · exact ⟨l, e, ho⟩
      · exact ⟨n, q, hn⟩
    obtain ⟨n', q1', h1'⟩ := old q1 h1
    obtain ⟨r', q2', h2'⟩ := old q2 h2
    exact R.ds j k n' r' u q1' q2' h1' h2' q3 q4
  · have old : ∀ {j : Nat} {n : Lc}, (ρ.set i (some m))[j]? = some (some n) → ∃ n', ρ[j]? = some (some n') ∧ n'.fp = n.fp ∧ (n.own = true → n'.own = true) := fun {j n} q => by
      rcases set_get q with ⟨rfl, _, z⟩ | ⟨hj, q⟩
      · cases z; exact ⟨l, e, hfp.symm, fun _ => ho⟩
      · exact ⟨n, q, rfl, id⟩
    obtain ⟨n', q', f', _⟩ := old q
    obtain ⟨⟨z1, z2, vs, z3, z4⟩, w⟩ := R.ns j n' b xs q' (by rw [f']; exact hb)
    have hba : b ≠ a := fun z => R.noN_at e ho es j n' xs q' (by rw [← z, f']; exact hb)
    have et : n'.tag = n.tag := by
      rcases set_get q with ⟨rfl, _, z⟩ | ⟨hj, q⟩
      · cases z; rw [e] at q'; cases q'; exact ht.symm
      · rw [q] at q'; cases q'; rfl
    rw [et] at z2
    refine ⟨⟨z1, z2, vs, by rw [upd_ne hba]; exact z3, z4⟩, fun k r q2 => ?_⟩
    obtain ⟨r', q2', f2, o2⟩ := old q2
    obtain ⟨w1, w2⟩ := w k r' q2'
    exact ⟨fun hr => w1 (o2 hr), fun ys hy => w2 ys (by rw [f2]; exact hy)⟩
end
end DL
namespace DL
open PySem L2
theorem peImp {X : Cx} {e : Expr} {t t' : TE} (h : PE X e t) (w : ∀ σ H Q, t' σ H Q → t σ H Q) : PE X e t' := ⟨fun pins s σ H Q I q => h.run pins s σ H Q I (w _ _ _ q)⟩
theorem ptImp {X : Cx} {e : Expr} {t t' : TT} (h : PT X e t) (w : ∀ σ H Q, t' σ H Q → t σ H Q) : PT X e t' := ⟨fun pins s σ H Q I q => h.run pins s σ H Q I (w _ _ _ q)⟩
theorem pwImp {X : Cx} {e : Expr} {t t' : TT} (h : PW X e t) (w : ∀ σ H Q, t' σ H Q → t σ H Q) : PW X e t' := ⟨fun wh pins s σ H Q I q => h.run wh pins s σ H Q I (w _ _ _ q)⟩
theorem paImp {X : Cx} {e : List Expr} {t t' : TA} (h : PA X e t) (w : ∀ σ H Q, t' σ H Q → t σ H Q) : PA X e t' := ⟨fun pos pins s σ H Q I q => h.run pos pins s σ H Q I (w _ _ _ q)⟩
theorem psImp {X : Cx} {e : Stmt} {t t' : TS} (h : PS X e t) (w : ∀ D σ H, t' D σ H → t D σ H) : PS X e t' := ⟨fun pins s σ H D I q => h.run pins s σ H D I (w _ _ _ q)⟩
theorem pssImp {X : Cx} {e : List Stmt} {t t' : TS} (h : PSs X e t) (w : ∀ D σ H, t' D σ H → t D σ H) : PSs X e t' := ⟨fun pins s σ H D I q => h.run pins s σ H D I (w _ _ _ q)⟩
abbrev TD := En → (PD → En → Prop) → Prop
abbrev TF := En → (Lc → En → Prop) → Prop
abbrev TTd := En → (Bool → En → Prop) → Prop
inductive Op1 where
  | e (t : TD)
  | s (i : Nat)
  /-- the own list under a name in the own instance of a slot -/
  | f (C : Addr) (i : Nat) (nm : Str)
inductive AV where
  | v (x : PD)
  | s (i : Nat)
  | f (i : Nat) (nm : Str) (b : Addr)
abbrev TAd := En → (List AV → En → Prop) → Prop
def Op1.run : Op1 → En → (AV → En → Prop) → Prop
  | .e t, ρ, Q => t ρ fun x ρ' => Q (.v x) ρ'
  | .s i, ρ, Q => match ρ[i]? with
    | some (some _) => Q (.s i) ρ
    | _ => False
  | .f C i nm, ρ, Q => match ρ[i]? with
    | some (some (.nb _ B fs ns)) => B = C ∧ noF nm fs = true ∧ (match getN nm ns with
      | some (b, _) => Q (.f i nm b) ρ
      | none => False)
    | _ => False
section
variable (K : PySem.W.Frag)
structure Frs (G : Gm) (F H : Hp) (ρ : En) (σ : L2.St) (l : Lc) (a : Addr) : Prop where
  hf : NoS ρ σ a
  hn : NoN ρ a
  ns : NsR K G F H ρ σ l (.ref a)
def RsOk (G : Gm) (F H : Hp) (ρ : En) (σ : L2.St) : Lc → V → Prop
  | .d x, v => Df K F v x
  | .sc xs, v => ScOk K F xs v
  | l, v => ∃ a, v = .ref a ∧ l.tag = none ∧ At K G F H l a ∧ Frs K G F H ρ σ l a
def AvOk (F : Hp) (σ : L2.St) : AV → V → Prop
  | .v x, v => Df K F v x
  | .s i, v => σ[i]? = some (some v)
  | .f _ _ b, v => v = .ref b
inductive AvA (F : Hp) (σ : L2.St) : List AV → List V → Prop
  | nil : AvA F σ [] []
  | cons {a : AV} {as : List AV} {v : V} {vs : List V} : AvOk K F σ a v → AvA F σ as vs → AvA F σ (a :: as) (v :: vs)
def liftD [Pn] (t : TD) : TE := fun σ H Q => ∃ G ρ F Q', Rel K G ρ F σ H ∧ t ρ Q' ∧ ∀ x ρ' v H' F', Q' x ρ' → Rel K G ρ' F' σ H' → Same F F' → Df K F' v x → Q v H'
def liftF [Pn] (t : TF) : TE := fun σ H Q => ∃ G ρ F Q', Rel K G ρ F σ H ∧ t ρ Q' ∧ ∀ l ρ' v H' F', Q' l ρ' → Rel K G ρ' F' σ H' → Same F F' → RsOk K G F' H' ρ' σ l v → Q v H'
def liftT [Pn] (t : TTd) : TT := fun σ H Q => ∃ G ρ F Q', Rel K G ρ F σ H ∧ t ρ Q' ∧ ∀ b ρ' H' F', Q' b ρ' → Rel K G ρ' F' σ H' → Same F F' → Q b H'
def liftO [Pn] (o : Op1) : TE := fun σ H Q => ∃ G ρ F Q', Rel K G ρ F σ H ∧ o.run ρ Q' ∧ ∀ a ρ' v H' F', Q' a ρ' → Rel K G ρ' F' σ H' → Same F F' → AvOk K F' σ a v → Q v H'
def liftA [Pn] (n : Nat) (t : TAd) : TA := fun σ H Q => ∃ G ρ F Q', Rel K G ρ F σ H ∧ t ρ Q' ∧ ∀ as ρ' vs H' F', Q' as ρ' → as.length = n → Rel K G ρ' F' σ H' → Same F F' → AvA K F' σ as vs → Q vs H'
end
structure LD [Pn] (X : Cx) (e : Expr) (t : TD) : Prop where
  p : PE X e (liftD X.K t)
structure LF [Pn] (X : Cx) (e : Expr) (t : TF) : Prop where
  p : PE X e (liftF X.K t)
structure LT [Pn] (X : Cx) (e : Expr) (t : TTd) : Prop where
  p : PT X e (liftT X.K t)
structure LW [Pn] (X : Cx) (e : Expr) (t : TTd) : Prop where
  p : PW X e (liftT X.K t)
structure LO [Pn] (X : Cx) (e : Expr) (t : Op1) : Prop where
  p : PE X e (liftO X.K t)
structure LA [Pn] (X : Cx) (es : List Expr) (t : TAd) : Prop where
  p : PA X es (liftA X.K es.length t)
section
variable {G : Gm} {X : Cx} {K : PySem.W.Frag} {F F' H H' : Hp} {ρ : En} {σ : L2.St} {v : V} {x : PD}
inductive Dr (K : PySem.W.Frag) (F H : Hp) : V → PD → Prop
  | f {v : V} {x : PD} : Df K F v x → Dr K F H v x
  | l {a : Addr} {vs : List V} {xs : List PD} : H a = some (.lst vs) → DfA K F vs xs → Dr K F H (.ref a) (.list xs)
  | k {a : Addr} {us : List (Key × V)} {kvs : List (Key × PD)} : H a = some (.dK us) → DKv K F us kvs → Dr K F H (.ref a) (.dict (kvs.map fun p => (keyD p.1, p.2)))
def res1 (ρ : En) : AV → (PD → Prop) → Prop
  | .v x, k => k x
  | .s i, k => match ρ[i]? with
    | some (some (.d x)) => k x
    | some (some (.ls _ xs)) => k (.list xs)
    | some (some (.dk _ kvs)) => k (.dict (kvs.map fun p => (keyD p.1, p.2)))
    | _ => False
  | .f i nm b, k => match ρ[i]? with
    | some (some (.nb _ _ _ ns)) => (match getN nm ns with
      | some (c, xs) => c = b ∧ k (.list xs)
      | none => False)
    | _ => False
def resF (ρ : En) : AV → (PD → Prop) → Prop
  | .v x, k => k x
  | .s i, k => match ρ[i]? with
    | some (some (.d x)) => k x
    | _ => False
  | .f _ _ _, _ => False
def resA (ρ : En) : List AV → (List PD → Prop) → Prop
  | [], k => k []
  | a :: r, k => res1 ρ a fun x => resA ρ r fun xs => k (x :: xs)
def resFA (ρ : En) : List AV → (List PD → Prop) → Prop
  | [], k => k []
  | a :: r, k => resF ρ a fun x => resFA ρ r fun xs => k (x :: xs)
inductive DrA (K : PySem.W.Frag) (F H : Hp) : List V → List PD → Prop
  | nil : DrA K F H [] []
  | cons {v : V} {vs : List V} {d : PD} {ds : List PD} : Dr K F H v d → DrA K F H vs ds → DrA K F H (v :: vs) (d :: ds)
theorem AvOk.mono {a : AV} (s : Same F F') (h : AvOk K F σ a v) : AvOk K F' σ a v := by
  cases a with
  | v x => exact Df.mono s h
  | s i => exact h
  | f i nm b => exact h
theorem Rel.nst [Pn] {i : Nat} {p : Option Nat} {C : Addr} {fs : List (Str × PD)} {ns : List (Str × Addr × List PD)} {nm : Str} {b : Addr} {xs : List PD} (R : Rel K G ρ F σ H) (e : ρ[i]? = some (some (.nb p C fs ns))) (h : getN nm ns = some (b, xs)) : ∃ vs, H b = some (.lst vs) ∧ DfA K F vs xs :=
  (R.ns i _ b xs e (List.mem_map.mpr ⟨_, getN_mem h, rfl⟩)).1.ob
theorem AvA.mono {as : List AV} {vs : List V} (s : Same F F') (h : AvA K F σ as vs) : AvA K F' σ as vs := by
  induction h with
  | nil => exact .nil
  | cons a _ ih => exact .cons (a.mono s) ih
theorem res1_dr [Pn] (R : Rel K G ρ F σ H) {a : AV} (h : AvOk K F σ a v) {k : PD → Prop} (r : res1 ρ a k) : ∃ x, k x ∧ Dr K F H v x := by
  cases a with
  | v x => exact ⟨x, r, .f h⟩
  | s i =>
    dsimp only [res1] at r
    have h : σ[i]? = some (some v) := h
    split at r
    · rename_i x e
      obtain ⟨u, e1, d⟩ := R.sl i _ e
      rw [h] at e1
      have : v = u := by simpa using e1
      subst this
      exact ⟨x, r, .f d⟩
    · rename_i p xs e
      obtain ⟨b, e1, nf, ow, o, eo, ok⟩ := R.at_ e rfl
      rw [h] at e1
      have : v = .ref b := by simpa using e1
      subst this
      cases o <;> first | exact False.elim ok | exact ⟨_, r, .l eo ok⟩
    · rename_i p xs e
      obtain ⟨b, e1, nf, ow, o, eo, ok⟩ := R.at_ e rfl
      rw [h] at e1
      have : v = .ref b := by simpa using e1
      subst this
      cases o <;> first | exact False.elim ok | exact ⟨_, r, .k eo ok⟩
    · exact False.elim r
  | f i nm b =>
    dsimp only [res1] at r
    have h : v = .ref b := h
    subst h
    split at r
    · rename_i p C fs ns e
      split at r
      · rename_i c xs en
        obtain ⟨rfl, r⟩ := r
        obtain ⟨vs, e1, d⟩ := R.nst e en
        exact ⟨_, r, .l e1 d⟩
      · exact False.elim r
    · exact False.elim r
theorem resF_df [Pn] (R : Rel K G ρ F σ H) {a : AV} (h : AvOk K F σ a v) {k : PD → Prop} (r : resF ρ a k) : ∃ x, k x ∧ Df K F v x := by
  cases a with
  | v x => exact ⟨x, r, h⟩
  | s i =>
    dsimp only [resF] at r
    have h : σ[i]? = some (some v) := h
    split at r
    · rename_i x e
      obtain ⟨u, e1, d⟩ := R.sl i _ e
      rw [h] at e1
      have : v = u := by simpa using e1
      subst this
      exact ⟨x, r, d⟩
    · exact False.elim r
  | f i nm b => exact False.elim r
theorem resA_dr [Pn] (R : Rel K G ρ F σ H) : ∀ {as : List AV} {vs : List V}, AvA K F σ as vs → ∀ {k : List PD → Prop}, resA ρ as k → ∃ xs, k xs ∧ DrA K F H vs xs
  | _, _, .nil, k, r => ⟨[], r, .nil⟩
  | _, _, .cons a t, k, r => by
    obtain ⟨x, r1, d⟩ := res1_dr R a r
    obtain ⟨xs, r2, ds⟩ := resA_dr R t r1
    exact ⟨x :: xs, r2, .cons d ds⟩
theorem resFA_df [Pn] (R : Rel K G ρ F σ H) : ∀ {as : List AV} {vs : List V}, AvA K F σ as vs → ∀ {k : List PD → Prop}, resFA ρ as k → ∃ xs, k xs ∧ DfA K F vs xs
  | _, _, .nil, k, r => ⟨[], r, .nil⟩
  | _, _, .cons a t, k, r => by
    obtain ⟨x, r1, d⟩ := resF_df R a r
    obtain ⟨xs, r2, ds⟩ := resFA_df R t r1
    exact ⟨x :: xs, r2, .cons d ds⟩
theorem AvA.length {as : List AV} {vs : List V} (h : AvA K F σ as vs) : as.length = vs.length := by
  induction h with
  | nil => rfl
  | cons _ _ ih => rw [List.length_cons, List.length_cons, ih]
theorem Dr.df (s : Same F H) (h : Dr K F H v x) : Df K H v x := by
  cases h with
  | f h => exact h.mono s
  | l e h => exact .lst (.inl e) (h.mono s)
  | k e h => exact .dk (.inl e) ((DKv.mono s h).dfk)
theorem Dr.int {i : Int} (h : Dr K F H v (.int i)) : v = .int i := by cases h with | f h => cases h; rfl
theorem Dr.str {i : Str} (h : Dr K F H v (.str i)) : v = .str i := by cases h with | f h => cases h; rfl
theorem Dr.bl {i : Bool} (h : Dr K F H v (.bool i)) : v = .bl i := by cases h with | f h => cases h; rfl
theorem Dr.non (h : Dr K F H v .none) : v = .non := by cases h with | f h => cases h; rfl
theorem Dr.tup {xs : List PD} (s : Same F H) (h : Dr K F H v (.tuple xs)) : ∃ a vs, v = .ref a ∧ SqT K H a vs ∧ DfA K F vs xs := by
  cases h with
  | f h => cases h with | tup q d => exact ⟨_, _, rfl, seqT s q, d⟩
theorem Dr.lst {xs : List PD} (s : Same F H) (h : Dr K F H v (.list xs)) : ∃ a vs, v = .ref a ∧ Rd H a (.lst vs) ∧ DfA K F vs xs := by
  cases h with
  | f h => cases h with | lst q d => exact ⟨_, _, rfl, rdM s q, d⟩
  | l e d => exact ⟨_, _, rfl, .inl e, d⟩
def dFz (t : TF) : TD := fun ρ Q => t ρ fun l ρ' => if l.fz = true then Q l.pd ρ' else False
def fD (t : TD) : TF := fun ρ Q => t ρ fun x ρ' => Q (.d x) ρ'
theorem RsOk.freeze [Pn] {l : Lc} (R : Rel K G ρ F σ H) (h : RsOk K G F H ρ σ l v) (hz : l.fz = true) : ∃ F', Rel K G ρ F' σ H ∧ Same F F' ∧ Df K F' v l.pd := by
  cases l with
  | d x => exact ⟨F, R, Same.refl _, h⟩
  | sc u => simp [Lc.fz] at hz
  | ls p xs =>
    obtain ⟨a, rfl, ht, ⟨nf, ow, o, eo, ok⟩, hf⟩ := h
    have ht : p = none := ht
    subst ht
    obtain ⟨R', s⟩ := R.freeze nf ow eo hf.hf hf.hn
    exact ⟨_, R', s, ok.df hz upd_same s⟩
  | dk p xs =>
    obtain ⟨a, rfl, ht, ⟨nf, ow, o, eo, ok⟩, hf⟩ := h
    have ht : p = none := ht
    subst ht
    obtain ⟨R', s⟩ := R.freeze nf ow eo hf.hf hf.hn
    exact ⟨_, R', s, ok.df hz upd_same s⟩
  | ob p C xs =>
    obtain ⟨a, rfl, ht, ⟨nf, ow, o, eo, ok⟩, hf⟩ := h
    have ht : p = none := ht
    subst ht
    obtain ⟨R', s⟩ := R.freeze nf ow eo hf.hf hf.hn
    exact ⟨_, R', s, ok.df hz upd_same s⟩
  | dt p xs => cases p <;> simp [Lc.fz] at hz
  | nb p C fs ns => simp [Lc.fz] at hz
  | ln p xs => simp [Lc.fz] at hz
variable {e e2 : Expr} {es : List Expr} {pos : Pos}
theorem LD.ofF [Pn] {t : TF} (h : LF X e t) : LD X e (dFz t) := ⟨peImp h.p fun σ H Q ⟨G, ρ, F, Q', R, q, c⟩ => ⟨G, ρ, F, _, R, q, fun l ρ' v H' F' h1 R1 s1 r1 => by
  split at h1
  · rename_i hz
    obtain ⟨F2, R2, s2, d⟩ := r1.freeze R1 hz
    exact c _ _ v H' F2 h1 R2 (s1.trans s2) d
  · exact False.elim h1⟩⟩
theorem LF.ofD [Pn] {t : TD} (h : LD X e t) : LF X e (fD t) := ⟨peImp h.p fun σ H Q ⟨G, ρ, F, Q', R, q, c⟩ => ⟨G, ρ, F, _, R, q, fun x ρ' v H' F' h1 R1 s1 r1 => c _ _ v H' F' h1 R1 s1 r1⟩⟩
theorem LO.ofD [Pn] {t : TD} (h : LD X e t) : LO X e (.e t) := ⟨peImp h.p fun σ H Q ⟨G, ρ, F, Q', R, q, c⟩ => ⟨G, ρ, F, _, R, q, fun x ρ' v H' F' h1 R1 s1 r1 => c _ _ v H' F' h1 R1 s1 r1⟩⟩
def dC (x : PD) : TD := fun ρ Q => Q x ρ
def dVar (i : Nat) : TD := fun ρ Q => match ρ[i]? with
  | some (some (.d x)) => Q x ρ
  | some (some l) => if l.fz = true then Q l.pd (ρ.set i (some (.d l.pd))) else False
  | _ => False
theorem LD.int [Pn] {i : Int} {j : Nat} : LD X (.Constant (.int i) j pos) (dC (.int i)) := ⟨peImp pe_int fun σ H Q ⟨G, ρ, F, Q', R, q, c⟩ => c _ _ _ H F q R (Same.refl _) (.int i)⟩
theorem LD.str [Pn] {i : Str} {j : Nat} : LD X (.Constant (.str i) j pos) (dC (.str i)) := ⟨peImp pe_str fun σ H Q ⟨G, ρ, F, Q', R, q, c⟩ => c _ _ _ H F q R (Same.refl _) (.str i)⟩
theorem LD.bl [Pn] {i : Bool} {j : Nat} : LD X (.Constant (.bool i) j pos) (dC (.bool i)) := ⟨peImp pe_bl fun σ H Q ⟨G, ρ, F, Q', R, q, c⟩ => c _ _ _ H F q R (Same.refl _) (.bl i)⟩
theorem LD.non [Pn] {j : Nat} : LD X (.Constant .none j pos) (dC .none) := ⟨peImp pe_non fun σ H Q ⟨G, ρ, F, Q', R, q, c⟩ => c _ _ _ H F q R (Same.refl _) .non⟩
theorem LD.glob [Pn] {x : Str} {v : V} {u : Value} {d : PD} (hg : Gl X x) (hm : X.mg x = some u) (r : RelV v u) (h : ∀ F, Df X.K F v d) (hd : (x == ("__debug__" : Str)) = false := by decide) : LD X (.Name x pos) (dC d) :=
  ⟨peImp (pe_glob hg hm r hd) fun σ H Q ⟨G, ρ, F, Q', R, q, c⟩ => c _ _ _ H F q R (Same.refl _) (h F)⟩
theorem LD.var [Pn] (i : Nat) (h : PE X e (tVar i)) : LD X e (dVar i) := ⟨peImp h fun σ H Q ⟨G, ρ, F, Q', R, q, c⟩ => by
  unfold dVar at q
  split at q
  · rename_i x er
    obtain ⟨v, e1, d⟩ := R.sl i _ er
    exact ⟨v, e1, c _ _ v H F q R (Same.refl _) d⟩
  · rename_i l nd er
    split at q
    · rename_i hz
      have ho : l.own = true := by
        cases l with
        | d x => exact absurd rfl (nd x)
        | sc u => simp [Lc.fz] at hz
        | _ => rfl
      obtain ⟨F', a, R', s, es, d⟩ := R.freeze_slot er ho hz
      exact ⟨_, es, c _ _ _ H F' q R' s d⟩
    · exact False.elim q
  · exact False.elim q⟩
theorem LO.s [Pn] (i : Nat) (h : PE X e (tVar i)) : LO X e (.s i) := ⟨peImp h fun σ H Q ⟨G, ρ, F, Q', R, q, c⟩ => by
  dsimp only [Op1.run] at q
  split at q
  · rename_i l er
    obtain ⟨v, e1⟩ := (R.sl i _ er).some
    exact ⟨v, e1, c _ _ v H F q R (Same.refl _) e1⟩
  · exact False.elim q⟩
def aNil : TAd := fun ρ Q => Q [] ρ
def aCons (o : Op1) (r : TAd) : TAd := fun ρ Q => o.run ρ fun a ρ1 => r ρ1 fun as ρ2 => Q (a :: as) ρ2
theorem LA.nil [Pn] : LA X [] aNil := ⟨paImp pa_nil fun σ H Q ⟨G, ρ, F, Q', R, q, c⟩ => c _ _ _ H F q rfl R (Same.refl _) .nil⟩
theorem LA.cons [Pn] {o : Op1} {r : TAd} (h : LO X e o) (hr : LA X es r) (hs : starEach (e :: es) X.env = (false, eval e X.env) :: starEach es X.env := by rfl) : LA X (e :: es) (aCons o r) :=
  ⟨paImp (pa_cons h.p hr.p hs) fun σ H Q ⟨G, ρ, F, Q', R, q, c⟩ => ⟨G, ρ, F, _, R, q, fun a ρ1 v H1 F1 h1 R1 s1 a1 => ⟨G, ρ1, F1, _, R1, h1, fun as ρ2 vs H2 F2 h2 hl R2 s2 a2 =>
    c _ _ _ H2 F2 h2 (by rw [List.length_cons, List.length_cons, hl]) R2 (s1.trans s2) (.cons (a1.mono s2) a2)⟩⟩⟩
def dTup (t : TAd) : TD := fun ρ Q => t ρ fun as ρ1 => resFA ρ1 as fun xs => Q (.tuple xs) ρ1
def fLst (t : TAd) : TF := fun ρ Q => t ρ fun as ρ1 => resFA ρ1 as fun xs => Q (.ls none xs) ρ1
theorem LD.tup [Pn] {t : TAd} {k : Nat} (h : LA X es t) (hn : es.length ≤ 100000 := by decide) : LD X (.Tuple es k pos) (dTup t) := ⟨peImp (pe_tup h.p) fun σ H Q ⟨G, ρ, F, Q', R, q, c⟩ => ⟨G, ρ, F, _, R, q, fun as ρ1 vs H1 F1 h1 hl R1 s1 a1 => by
  obtain ⟨xs, h2, d⟩ := resFA_df R1 a1 h1
  refine ⟨Nat.le_trans (by rw [← a1.length, hl]; exact hn) (by decide), fun p hp => ?_⟩
  have g := Grow.frozen R1.fh hp (.tup vs)
  exact c _ _ _ _ _ h2 (R1.grow g) (s1.trans g.ff) (.tup (SqT.of upd_same) (d.mono g.ff))⟩⟩
theorem fresh_ok [Pn] {l : Lc} {p : Addr} {o : HO} (R : Rel K G ρ F σ H) (hp : H p = none) (ok : HoOk K F l o) (ht : l.tag = none) (hfp : l.fp = [] := by rfl) : Rel K G ρ F σ (upd H p o) ∧ RsOk K G F (upd H p o) ρ σ l (.ref p) := by
  refine ⟨R.grow (Grow.owned R.fh hp o), ?_⟩
  have h : ∃ a, V.ref p = .ref a ∧ l.tag = none ∧ At K G F (upd H p o) l a ∧ Frs K G F (upd H p o) ρ σ l a := by
    refine ⟨p, rfl, ht, ⟨R.fh.free hp, ?_, o, upd_same, ok⟩, R.noS_free hp, R.noN_free hp, .nil hfp⟩
    rw [ht]; exact R.h0 hp
  cases l with
  | d x => cases o <;> exact False.elim ok
  | sc u => cases o <;> exact False.elim ok
  | _ => exact h
theorem LF.lst [Pn] {t : TAd} (h : LA X es t) (hn : es.length ≤ 100000 := by decide) : LF X (.List es pos) (fLst t) := ⟨peImp (pe_lst h.p) fun σ H Q ⟨G, ρ, F, Q', R, q, c⟩ => ⟨G, ρ, F, _, R, q, fun as ρ1 vs H1 F1 h1 hl R1 s1 a1 => by
  obtain ⟨xs, h2, d⟩ := resFA_df R1 a1 h1
  refine ⟨Nat.le_trans (by rw [← a1.length, hl]; exact hn) (by decide), fun p hp => ?_⟩
  obtain ⟨R2, k⟩ := fresh_ok (l := .ls none xs) (o := .lst vs) R1 hp d rfl
  exact c _ _ _ _ _ h2 R2 s1 k⟩⟩
abbrev F2 := PD → PD → (PD → Prop) → Prop
def Op2Ok (K : PySem.W.Frag) (f : F2) (r : R2) : Prop := ∀ (F H : Hp) (vx vy : V) (x y : PD) (k : PD → Prop) (Q : VK), Same F H → Dr K F H vx x → Dr K F H vy y → f x y k →
  (∀ z v F' H', k z → Grow F H F' H' → Df K F' v z → Q v H') → r vx vy H Q
def dBin (f : F2) (a b : Op1) : TD := fun ρ Q => a.run ρ fun x ρ1 => b.run ρ1 fun y ρ2 => res1 ρ2 x fun x' => res1 ρ2 y fun y' => f x' y' fun z => Q z ρ2
variable {f : F2} {r : R2} {oa ob oc : Op1}
theorem tOp_of [Pn] (hf : Op2Ok K f r) {Q : VK} (h : liftD K (dBin f oa ob) σ H Q) : tOp r (liftO K oa) (liftO K ob) σ H Q := by
  obtain ⟨G, ρ, F, Q', R, q, c⟩ := h
  refine ⟨G, ρ, F, _, R, q, fun a ρ1 vx H1 F1 h1 R1 s1 ax => ⟨G, ρ1, F1, _, R1, h1, fun b ρ2 vy H2 F2 h2 R2 s2 ay => ?_⟩⟩
  obtain ⟨x', h3, dx⟩ := res1_dr R2 (ax.mono s2) h2
  obtain ⟨y', h4, dy⟩ := res1_dr R2 ay h3
  exact hf F2 H2 vx vy x' y' _ Q R2.fh dx dy h4 fun z v F' H' kz g d => c _ _ _ _ _ kz (R2.grow g) ((s1.trans s2).trans g.ff) d
theorem LD.bin [Pn] {op : Operator} (ho : OpR X (binaryOp op) r) (hf : Op2Ok X.K f r) (ha : LO X e oa) (hb : LO X e2 ob) : LD X (.BinOp e op e2 pos) (dBin f oa ob) := ⟨peImp (pe_op ho ha.p hb.p) fun _ _ _ h => tOp_of hf h⟩
theorem LD.cmp [Pn] {op : CmpOp} (ho : OpR X (compareOp op) r) (hf : Op2Ok X.K f r) (ha : LO X e oa) (hb : LO X e2 ob) (hm : behindInMarks op e2 = false) : LD X (.Compare e [op] [e2] pos) (dBin f oa ob) := ⟨peImp (pe_cmpR ho ha.p hb.p hm) fun _ _ _ h => tOp_of hf h⟩
def bAdd : F2
  | .int i, .int j, k => k (.int (i + j))
  | .list xs, .list ys, k => xs.length + ys.length ≤ sizeLine ∧ k (.list (xs ++ ys))
  | .tuple xs, .tuple ys, k => xs ≠ [] ∧ xs.length + ys.length ≤ sizeLine ∧ k (.tuple (xs ++ ys))
  | .str x, .str y, k => x.length + y.length ≤ sizeLine ∧ k (.str (x ++ y))
  | _, _, _ => False
def bSub : F2
  | .int i, .int j, k => k (.int (i - j))
  | _, _, _ => False
def bFdiv : F2
  | .int i, .int j, k => CDivW i j ∧ k (.int (i / j))
  | _, _, _ => False
def bMod : F2
  | .int i, .int j, k => 0 < j ∧ k (.int (i % j))
  | _, _, _ => False
def CPowW (i j : Int) : Prop := 0 ≤ j ∧ (Builtin.Int.intBits i : Int) * j ≤ 2 ^ 27
def bPow : F2
  | .int i, .int j, k => CPowW i j ∧ k (.int (i ^ j.toNat))
  | _, _, _ => False
end
end DL
namespace DL
open PySem L2 PyProof.Rows
section
variable {X : Cx} {K : PySem.W.Frag} {F H : Hp}
theorem rd_list {pins : List (Addr × Obj)} {σ : L2.St} {s : Shared} {l : Addr} {xs : List V} (I : Inv X pins σ H s) (h : Rd H l (.lst xs)) :
    xs.length ≤ sizeLine ∧ ∃ (its : List Value) (n : Nat), Vals xs its ∧ xs.length = its.length ∧ s.heap.get? l = some { cls := .type "list", data := .seq its.toArray n } := by
  have q : ObjOk X.prog X.w H s.heap l (.lst xs) := h.ok I.hok
  obtain ⟨z, its, n, r, e⟩ := q
  exact ⟨z, its, n, r, r.length, e⟩
theorem rdSq {l : Addr} {xs : List V} (h : Rd H l (.lst xs)) : SqL K H l xs := .inl h
def rCatD : R2 := fun x y H Q => ∃ l b xs zs, x = .ref l ∧ y = .ref b ∧ Rd H l (.lst xs) ∧ Rd H b (.lst zs) ∧ xs.length + zs.length ≤ sizeLine ∧ ∀ p, H p = none → Q (.ref p) (upd H p (.lst (xs ++ zs)))
theorem op_catD : OpR X (binaryOp .Add) rCatD := by
  intro pins s σ H x y v u Q I rx ry ⟨l, b, xs, zs, ex, ey, hx, hy, hz, q⟩
  subst ex ey
  cases rx; cases ry
  obtain ⟨z, is1, n, r, hl, e⟩ := rd_list I hx
  obtain ⟨z2, is2, n2, r2, hl2, e2⟩ := rd_list I hy
  have ea : is1.toArray ++ is2.toArray = (is1 ++ is2).toArray := by simp
  refine PySem.P.add_list e e2 ?_ (by simp only [List.size_toArray]; omega)
  simp only [ea]
  refine ⟨.ref _, _, I.lnew (t' := s.toks) (r.append r2) ?_, rfl, q _ I.fresh⟩
  simp only [List.length_append]; exact hz
def rAddD (K : PySem.W.Frag) : R2 := fun x y H Q => rI0 (fun i j => .int (i + j)) x y H Q ∨ rCatD x y H Q ∨ rCatT K x y H Q ∨ (∃ i j, x = .str i ∧ y = .str j ∧ i.length + j.length ≤ sizeLine ∧ Q (.str (i ++ j)) H)
theorem op_addD : OpR X (binaryOp .Add) (rAddD X.K) := op_add.or (op_catD.or (op_catT.or op_add_str))
theorem ok_add : Op2Ok K bAdd (rAddD K) := by
  intro F H vx vy x y k Q s dx dy h c
  unfold bAdd at h
  split at h
  · rename_i i j
    rw [dx.int, dy.int]
    exact .inl ⟨_, _, rfl, rfl, c _ _ F H h (Grow.refl s) (.int _)⟩
  · obtain ⟨a, vs, rfl, q, d⟩ := dx.lst s
    obtain ⟨b, us, rfl, q2, d2⟩ := dy.lst s
    refine .inr (.inl ⟨a, b, vs, us, rfl, rfl, q, q2, by rw [d.length, d2.length]; exact h.1, fun p hp => ?_⟩)
    have g := Grow.frozen s hp (.lst (vs ++ us))
    exact c _ _ _ _ h.2 g (.lst (.inl upd_same) ((d.append d2).mono g.ff))
  · obtain ⟨a, vs, rfl, q, d⟩ := dx.tup s
    obtain ⟨b, us, rfl, q2, d2⟩ := dy.tup s
    obtain ⟨h1, h2, h3⟩ := h
    have ne : vs ≠ [] := fun z => h1 (by have := d.length; rw [z] at this; exact List.length_eq_zero_iff.mp this.symm)
    refine .inr (.inr (.inl ⟨a, b, vs, us, rfl, rfl, q, q2, ne, by rw [d.length, d2.length]; exact h2, ?_, ?_⟩))
    · intro e
      have : us = [] := e
      subst this
      cases d2
      rw [List.append_nil] at h3
      cases dx with
      | f dx => exact c _ _ F H h3 (Grow.refl s) dx
    · intro _ p hp
      have g := Grow.frozen s hp (.tup (vs ++ us))
      exact c _ _ _ _ h3 g (.tup (SqT.of upd_same) ((d.append d2).mono g.ff))
  · rw [dx.str, dy.str]
    exact .inr (.inr (.inr ⟨_, _, rfl, rfl, h.1, c _ _ F H h.2 (Grow.refl s) (.str _)⟩))
  · exact False.elim h
theorem ok_sub : Op2Ok K bSub (rI0 fun i j => .int (i - j)) := by
  intro F H vx vy x y k Q s dx dy h c
  unfold bSub at h
  split at h
  · rw [dx.int, dy.int]
    exact ⟨_, _, rfl, rfl, c _ _ F H h (Grow.refl s) (.int _)⟩
  · exact False.elim h
theorem op_mulI : OpR X (binaryOp .Mult) (rI IntMulOk fun i j => .int (i * j)) := opI fun _ _ _ _ _ _ _ hc q => mul_int q hc
theorem ok_mulI {f : F2} (hf : ∀ x y k, f x y k → ∃ i j, x = .int i ∧ y = .int j ∧ IntMulOk i j ∧ k (.int (i * j))) : Op2Ok K f (rI IntMulOk fun i j => .int (i * j)) := by
  intro F H vx vy x y k Q s dx dy h c
  obtain ⟨i, j, rfl, rfl, h1, h2⟩ := hf _ _ _ h
  rw [dx.int, dy.int]
  exact ⟨_, _, rfl, rfl, h1, c _ _ F H h2 (Grow.refl s) (.int _)⟩
theorem ok_I {f : F2} {C : Int → Int → Prop} {g : Int → Int → Int} (hf : ∀ x y k, f x y k → ∃ i j, x = .int i ∧ y = .int j ∧ C i j ∧ k (.int (g i j))) : Op2Ok K f (rI C fun i j => .int (g i j)) := by
  intro F H vx vy x y k Q s dx dy h c
  obtain ⟨i, j, rfl, rfl, h1, h2⟩ := hf _ _ _ h
  rw [dx.int, dy.int]
  exact ⟨_, _, rfl, rfl, h1, c _ _ F H h2 (Grow.refl s) (.int _)⟩
theorem ok_fdiv : Op2Ok K bFdiv (rI CDivW fun i j => .int (i / j)) := ok_I fun x y k h => by
  unfold bFdiv at h
  split at h
  · exact ⟨_, _, rfl, rfl, h⟩
  · exact False.elim h
theorem ok_mod : Op2Ok K bMod (rI (fun _ j => 0 < j) fun i j => .int (i % j)) := ok_I fun x y k h => by
  unfold bMod at h
  split at h
  · exact ⟨_, _, rfl, rfl, h⟩
  · exact False.elim h
theorem op_powW : OpR X (binaryOp .Pow) (rI CPowW fun i j => .int (i ^ j.toNat)) := opI fun _ _ _ _ _ _ _ hc q => pow_int hc.1 hc.2 q
theorem ok_pow : Op2Ok K bPow (rI CPowW fun i j => .int (i ^ j.toNat)) := ok_I fun x y k h => by
  unfold bPow at h
  split at h
  · exact ⟨_, _, rfl, rfl, h⟩
  · exact False.elim h
def bMulI : F2
  | .int i, .int j, k => IntMulOk i j ∧ k (.int (i * j))
  | _, _, _ => False
theorem ok_mul : Op2Ok K bMulI (rI IntMulOk fun i j => .int (i * j)) := ok_mulI fun x y k h => by
  unfold bMulI at h
  split at h
  · exact ⟨_, _, rfl, rfl, h⟩
  · exact False.elim h
def shp (d : PD) : Prop := SeqAt.shaped d = true ∧ noDict d = true
def cEq : F2
  | .int i, .int j, k => k (.bool (decide (i = j)))
  | .str a, .str b, k => k (.bool (decide (a = b)))
  | x, y, k => shp x ∧ shp y ∧ k (.bool (PyData.eqv x y))
def cNe : F2
  | .int i, .int j, k => k (.bool (!decide (i = j)))
  | .str a, .str b, k => k (.bool (!decide (a = b)))
  | x, y, k => shp x ∧ shp y ∧ k (.bool (!PyData.eqv x y))
def rEqU (K : PySem.W.Frag) : R2 := fun x y H Q => rEq x y H Q ∨ rEqD K x y H Q
def rNeU (K : PySem.W.Frag) : R2 := fun x y H Q => rNe x y H Q ∨ rNeD K x y H Q
theorem op_eqU (hu : X.A.units + 64 < cLine) : OpR X (compareOp .Eq) (rEqU X.K) := op_eq.or (op_eqD hu)
theorem op_neU (hu : X.A.units + 64 < cLine) : OpR X (compareOp .NotEq) (rNeU X.K) := op_ne.or (op_neD hu)
theorem ok_eq : Op2Ok K cEq (rEqU K) := fun F H vx vy x y k Q s dx dy h c => by
  unfold cEq at h
  split at h
  · rw [dx.int, dy.int]
    refine .inl ⟨rfl, ?_⟩
    have := c _ _ F H h (Grow.refl s) (.bl _)
    simpa using this
  · rw [dx.str, dy.str]
    refine .inl ⟨rfl, ?_⟩
    have := c _ _ F H h (Grow.refl s) (.bl _)
    simpa using this
  · exact .inr ⟨x, y, (dx.df s).dp h.1.2, (dy.df s).dp h.2.1.2, h.1.1, h.2.1.1, c _ _ F H h.2.2 (Grow.refl s) (.bl _)⟩
theorem ok_ne : Op2Ok K cNe (rNeU K) := fun F H vx vy x y k Q s dx dy h c => by
  unfold cNe at h
  split at h
  · rw [dx.int, dy.int]
    refine .inl ⟨rfl, ?_⟩
    have := c _ _ F H h (Grow.refl s) (.bl _)
    simpa using this
  · rw [dx.str, dy.str]
    refine .inl ⟨rfl, ?_⟩
    have := c _ _ F H h (Grow.refl s) (.bl _)
    simpa using this
  · exact .inr ⟨x, y, (dx.df s).dp h.1.2, (dy.df s).dp h.2.1.2, h.1.1, h.2.1.1, c _ _ F H h.2.2 (Grow.refl s) (.bl _)⟩
def cI (p : Int → Int → Bool) : F2
  | .int i, .int j, k => k (.bool (p i j))
  | _, _, _ => False
theorem ok_cI (p : Int → Int → Bool) : Op2Ok K (cI p) (rI0 fun i j => .bl (p i j)) := by
  intro F H vx vy x y k Q s dx dy h c
  unfold cI at h
  split at h
  · rw [dx.int, dy.int]
    exact ⟨_, _, rfl, rfl, c _ _ F H h (Grow.refl s) (.bl _)⟩
  · exact False.elim h
abbrev cLt : F2 := cI fun i j => decide (i < j)
abbrev cLe : F2 := cI fun i j => decide (i ≤ j)
abbrev cGt : F2 := cI fun i j => decide (j < i)
abbrev cGe : F2 := cI fun i j => decide (j ≤ i)
def isNone : PD → Bool
  | .none => true
  | _ => false
def cIsN : F2 := fun x y k => y = .none ∧ k (.bool (isNone x))
def cNotN : F2 := fun x y k => y = .none ∧ k (.bool (!isNone x))
theorem dr_non {v : V} {x : PD} (h : Dr K F H v x) : decide (v = .non) = isNone x := by
  cases h with
  | f h => cases h <;> simp [isNone]
  | l _ _ => simp [isNone]
  | k _ _ => simp [isNone]
theorem ok_isN : Op2Ok K cIsN (fun x y H Q => y = .non ∧ Q (.bl (decide (x = .non))) H) := by
  intro F H vx vy x y k Q s dx dy ⟨h1, h2⟩ c
  subst h1
  refine ⟨dy.non, ?_⟩
  rw [dr_non dx]
  exact c _ _ F H h2 (Grow.refl s) (.bl _)
theorem ok_notN : Op2Ok K cNotN (fun x y H Q => y = .non ∧ Q (.bl (!decide (x = .non))) H) := by
  intro F H vx vy x y k Q s dx dy ⟨h1, h2⟩ c
  subst h1
  refine ⟨dy.non, ?_⟩
  rw [dr_non dx]
  exact c _ _ F H h2 (Grow.refl s) (.bl _)
def flatD : PD → Bool
  | .none => true
  | .bool _ => true
  | .int _ => true
  | .str _ => true
  | _ => false
theorem flat_v {v : V} {x : PD} (h : Df K F v x) (f : flatD x = true) : flatV v = true ∧ ∀ {u : V} {y : PD}, Df K F u y → flatD y = true → eqV v u = PyData.eqv x y := by
  cases h <;> simp [flatD] at f <;> refine ⟨rfl, fun {u y} g fy => ?_⟩ <;> cases g <;> first | (simp [flatD] at fy; done) | rfl | (simp [eqV, PyData.eqv])
theorem Dr.flat {v : V} {x : PD} (h : Dr K F H v x) (f : flatD x = true) : Df K F v x := by
  cases h with
  | f h => exact h
  | l _ _ => simp [flatD] at f
  | k _ _ => simp [flatD] at f
def itemsD : PD → Option (List PD)
  | .list xs => some xs
  | .tuple xs => some xs
  | _ => none
def cIn (neg : Bool) : F2 := fun x y k => flatD x = true ∧ ∃ ys, itemsD y = some ys ∧ ys.all flatD = true ∧ k (.bool (if neg then !(ys.any fun z => PyData.eqv z x) else ys.any fun z => PyData.eqv z x))
theorem flat_all {vs : List V} {ys : List PD} (h : DfA K F vs ys) (f : ys.all flatD = true) : vs.all flatV = true ∧ ∀ {u : V} {y : PD}, Df K F u y → flatD y = true → (vs.any fun z => eqV z u) = ys.any fun z => PyData.eqv z y := by
  induction vs generalizing ys with
  | nil => cases h; exact ⟨rfl, fun _ _ => rfl⟩
  | cons v vs ih =>
    cases h with
    | cons a b =>
      rw [List.all_cons, Bool.and_eq_true] at f
      obtain ⟨h1, h2⟩ := flat_v a f.1
      obtain ⟨h3, h4⟩ := ih b f.2
      refine ⟨by rw [List.all_cons, h1, h3]; rfl, fun {u y} g fy => ?_⟩
      rw [List.any_cons, List.any_cons, h2 g fy, h4 g fy]
theorem ok_in (neg : Bool) : Op2Ok K (cIn neg) (rIn K neg) := by
  intro F H vx vy x y k Q s dx dy ⟨fx, ys, ey, fy, h⟩ c
  have dx' := dx.flat fx
  obtain ⟨b, vs, rfl, q, d⟩ : ∃ b vs, vy = .ref b ∧ (SqL K H b vs ∨ SqT K H b vs) ∧ DfA K F vs ys := by
    cases y <;> simp [itemsD] at ey
    · subst ey
      obtain ⟨b, vs, e, q, d⟩ := dy.lst s
      exact ⟨b, vs, e, .inl (rdSq q), d⟩
    · subst ey
      obtain ⟨b, vs, e, q, d⟩ := dy.tup s
      exact ⟨b, vs, e, .inr q, d⟩
  obtain ⟨a1, a2⟩ := flat_all d fy
  refine ⟨b, vs, rfl, q, (flat_v dx' fx).1, a1, ?_⟩
  have e := a2 dx' fx
  unfold inV
  rw [e]
  exact c _ _ F H h (Grow.refl s) (.bl _)
end
end DL
namespace DL
open PySem L2 PyProof.Rows
section
variable {G : Gm} {X : Cx} {K : PySem.W.Frag} {F F' H H' : Hp} {ρ : En} {σ : L2.St} {e e2 e3 : Expr} {es : List Expr} {pos : Pos} {r r' : R2} {f f' : F2} {oa ob oc : Op1} {ta tb tc : TD} {t u : TTd}
def dNeg (o : Op1) : TD := fun ρ Q => o.run ρ fun a ρ1 => res1 ρ1 a fun x => match x with
  | .int i => Q (.int (-i)) ρ1
  | _ => False
theorem LD.neg [Pn] (h : LO X e oa) : LD X (.UnaryOp .USub e pos) (dNeg oa) := ⟨peImp (pe_un un_neg h.p) fun σ H Q ⟨G, ρ, F, Q', R, q, c⟩ => ⟨G, ρ, F, _, R, q, fun a ρ1 v H1 F1 h1 R1 s1 av => by
  obtain ⟨x, h2, d⟩ := res1_dr R1 av h1
  split at h2
  · rw [d.int]
    exact ⟨_, rfl, c _ _ _ _ _ h2 R1 s1 (.int _)⟩
  · exact False.elim h2⟩⟩
def tVal (t : TD) : TTd := fun ρ Q => t ρ fun x ρ1 => match x with
  | .bool b => Q b ρ1
  | _ => False
theorem LT.val [Pn] (h : LD X e ta) (he : ∀ whole, isTrue e X.env whole = (do let v ← whole; standAt e.pos; holding [v] (truthy v)) := by intro _; rfl) : LT X e (tVal ta) := ⟨ptImp (pt_val h.p he) fun σ H Q ⟨G, ρ, F, Q', R, q, c⟩ => ⟨G, ρ, F, _, R, q, fun x ρ1 v H1 F1 h1 R1 s1 d => by
  split at h1
  · cases d
    exact ⟨_, rfl, c _ _ _ _ h1 R1 s1⟩
  · exact False.elim h1⟩⟩
def brB (b : Bool) (p q : Prop) : Prop := (b = true → p) ∧ (b = false → q)
def tAndD (t u : TTd) : TTd := fun ρ Q => t ρ fun b ρ1 => brB b (u ρ1 Q) (Q false ρ1)
def tOrD (t u : TTd) : TTd := fun ρ Q => t ρ fun b ρ1 => brB b (Q true ρ1) (u ρ1 Q)
def tNotD (t : TTd) : TTd := fun ρ Q => t ρ fun b ρ1 => Q (!b) ρ1
theorem LW.and1 [Pn] (h : LT X e t) : LW X (.BoolOp .And [e] pos) t := ⟨pw_and1 h.p⟩
theorem LW.or1 [Pn] (h : LT X e t) : LW X (.BoolOp .Or [e] pos) t := ⟨pw_or1 h.p⟩
theorem LW.and [Pn] (h : LT X e t) (h2 : LW X (.BoolOp .And (e2 :: es) pos) u) : LW X (.BoolOp .And (e :: e2 :: es) pos) (tAndD t u) := ⟨pwImp (pw_and h.p h2.p) fun σ H Q ⟨G, ρ, F, Q', R, q, c⟩ => ⟨G, ρ, F, _, R, q, fun b ρ1 H1 F1 h1 R1 s1 => by
  cases b with
  | true => exact ⟨G, ρ1, F1, Q', R1, h1.1 rfl, fun b ρ2 H2 F2 h2 R2 s2 => c _ _ _ _ h2 R2 (s1.trans s2)⟩
  | false => exact c _ _ _ _ (h1.2 rfl) R1 s1⟩⟩
theorem LW.or [Pn] (h : LT X e t) (h2 : LW X (.BoolOp .Or (e2 :: es) pos) u) : LW X (.BoolOp .Or (e :: e2 :: es) pos) (tOrD t u) := ⟨pwImp (pw_or h.p h2.p) fun σ H Q ⟨G, ρ, F, Q', R, q, c⟩ => ⟨G, ρ, F, _, R, q, fun b ρ1 H1 F1 h1 R1 s1 => by
  cases b with
  | false => exact ⟨G, ρ1, F1, Q', R1, h1.2 rfl, fun b ρ2 H2 F2 h2 R2 s2 => c _ _ _ _ h2 R2 (s1.trans s2)⟩
  | true => exact c _ _ _ _ (h1.1 rfl) R1 s1⟩⟩
theorem LT.w [Pn] (h : LW X e t) : LT X e t := ⟨h.p.pt⟩
theorem LT.not [Pn] (h : LT X e t) : LT X (.UnaryOp .Not e pos) (tNotD t) := ⟨ptImp (pt_not h.p) fun σ H Q ⟨G, ρ, F, Q', R, q, c⟩ => ⟨G, ρ, F, _, R, q, fun b ρ1 H1 F1 h1 R1 s1 => c _ _ _ _ h1 R1 s1⟩⟩
def dAnd (ta tb : TD) : TD := fun ρ Q => ta ρ fun x ρ1 => match x with
  | .bool b => brB b (tb ρ1 Q) (Q (.bool false) ρ1)
  | _ => False
def dOr (ta tb : TD) : TD := fun ρ Q => ta ρ fun x ρ1 => match x with
  | .bool b => brB b (Q (.bool true) ρ1) (tb ρ1 Q)
  | _ => False
def dNot (ta : TD) : TD := fun ρ Q => ta ρ fun x ρ1 => match x with
  | .bool b => Q (.bool (!b)) ρ1
  | _ => False
theorem LD.one [Pn] {op : BoolOp} (h : LD X e ta) : LD X (.BoolOp op [e] pos) ta := ⟨pe_one h.p⟩
theorem LD.and [Pn] (h : LD X e ta) (h2 : LD X (.BoolOp .And (e2 :: es) pos) tb) : LD X (.BoolOp .And (e :: e2 :: es) pos) (dAnd ta tb) := ⟨peImp (pe_and h.p h2.p) fun σ H Q ⟨G, ρ, F, Q', R, q, c⟩ => ⟨G, ρ, F, _, R, q, fun x ρ1 v H1 F1 h1 R1 s1 d => by
  split at h1
  · rename_i b
    cases d
    refine ⟨b, rfl, ?_⟩
    cases b with
    | true => exact ⟨G, ρ1, F1, Q', R1, h1.1 rfl, fun x ρ2 v H2 F2 h2 R2 s2 d => c _ _ _ _ _ h2 R2 (s1.trans s2) d⟩
    | false => exact c _ _ _ _ _ (h1.2 rfl) R1 s1 (.bl _)
  · exact False.elim h1⟩⟩
theorem LD.or [Pn] (h : LD X e ta) (h2 : LD X (.BoolOp .Or (e2 :: es) pos) tb) : LD X (.BoolOp .Or (e :: e2 :: es) pos) (dOr ta tb) := ⟨peImp (pe_or h.p h2.p) fun σ H Q ⟨G, ρ, F, Q', R, q, c⟩ => ⟨G, ρ, F, _, R, q, fun x ρ1 v H1 F1 h1 R1 s1 d => by
  split at h1
  · rename_i b
    cases d
    refine ⟨b, rfl, ?_⟩
    cases b with
    | false => exact ⟨G, ρ1, F1, Q', R1, h1.2 rfl, fun x ρ2 v H2 F2 h2 R2 s2 d => c _ _ _ _ _ h2 R2 (s1.trans s2) d⟩
    | true => exact c _ _ _ _ _ (h1.1 rfl) R1 s1 (.bl _)
  · exact False.elim h1⟩⟩
theorem LD.not [Pn] (h : LD X e ta) : LD X (.UnaryOp .Not e pos) (dNot ta) := ⟨peImp (pe_not h.p) fun σ H Q ⟨G, ρ, F, Q', R, q, c⟩ => ⟨G, ρ, F, _, R, q, fun x ρ1 v H1 F1 h1 R1 s1 d => by
  split at h1
  · cases d
    exact ⟨_, rfl, c _ _ _ _ _ h1 R1 s1 (.bl _)⟩
  · exact False.elim h1⟩⟩
def dIte (t : TTd) (ta tb : TD) : TD := fun ρ Q => t ρ fun b ρ1 => brB b (ta ρ1 Q) (tb ρ1 Q)
theorem LD.ite [Pn] (h : LT X e t) (h2 : LD X e2 ta) (h3 : LD X e3 tb) : LD X (.IfExp e e2 e3 pos) (dIte t ta tb) := ⟨peImp (pe_ifExp h.p h2.p h3.p) fun σ H Q ⟨G, ρ, F, Q', R, q, c⟩ => ⟨G, ρ, F, _, R, q, fun b ρ1 H1 F1 h1 R1 s1 => by
  cases b with
  | true => exact ⟨G, ρ1, F1, Q', R1, h1.1 rfl, fun x ρ2 v H2 F2 h2 R2 s2 d => c _ _ _ _ _ h2 R2 (s1.trans s2) d⟩
  | false => exact ⟨G, ρ1, F1, Q', R1, h1.2 rfl, fun x ρ2 v H2 F2 h2 R2 s2 d => c _ _ _ _ _ h2 R2 (s1.trans s2) d⟩⟩⟩
def dChain (p p' : Int → Int → Bool) (oa ob oc : Op1) : TD := fun ρ Q => oa.run ρ fun a ρ1 => ob.run ρ1 fun b ρ2 => res1 ρ2 a fun x => res1 ρ2 b fun y => match x, y with
  | .int i, .int j => brB (p i j) (oc.run ρ2 fun cc ρ3 => res1 ρ3 cc fun z => (match z with
    | .int k => Q (.bool (p' j k)) ρ3
    | _ => False)) (Q (.bool false) ρ2)
  | _, _ => False
theorem tChain_of [Pn] {p p' : Int → Int → Bool} {Q : VK} (h : liftD K (dChain p p' oa ob oc) σ H Q) : tChain (rI0 fun i j => .bl (p i j)) (rI0 fun i j => .bl (p' i j)) (liftO K oa) (liftO K ob) (liftO K oc) σ H Q :=
  let ⟨G, ρ, F, Q', R, q, c⟩ := h
  ⟨G, ρ, F, _, R, q, fun a ρ1 vx H1 F1 h1 R1 s1 ax => ⟨G, ρ1, F1, _, R1, h1, fun b ρ2 vy H2 F2 h2 R2 s2 ay => by
    obtain ⟨x, h3, dx⟩ := res1_dr R2 (ax.mono s2) h2
    obtain ⟨y, h4, dy⟩ := res1_dr R2 ay h3
    split at h4
    · rename_i i j
      rw [dx.int, dy.int]
      refine ⟨i, j, rfl, rfl, _, rfl, ?_⟩
      cases hp : p i j with
      | true =>
        replace h4 := h4.1 hp
        refine iteT ⟨G, ρ2, F2, _, R2, h4, fun cc ρ3 vz H3 F3 h5 R3 s3 az => ?_⟩
        obtain ⟨z, h6, dz⟩ := res1_dr R3 az h5
        split at h6
        · rw [dz.int]
          exact ⟨_, _, rfl, rfl, c _ _ _ _ _ h6 R3 ((s1.trans s2).trans s3) (.bl _)⟩
        · exact False.elim h6
      | false =>
        replace h4 := h4.2 hp
        exact iteF (c _ _ _ _ _ h4 R2 (s1.trans s2) (.bl _))
    · exact False.elim h4⟩⟩
theorem LD.chain [Pn] {op op' : CmpOp} {p p' : Int → Int → Bool} (ho : OpR X (compareOp op) (rI0 fun i j => .bl (p i j))) (ho' : OpR X (compareOp op') (rI0 fun i j => .bl (p' i j))) (ha : LO X e oa) (hb : LO X e2 ob) (hc : LO X e3 oc)
    (hm : lastMarks [op, op'] [e2, e3] = false := by with_unfolding_all rfl) : LD X (.Compare e [op, op'] [e2, e3] pos) (dChain p p' oa ob oc) :=
  ⟨peImp (pe_chain ho ho' ha.p hb.p hc.p hm) fun _ _ _ h => tChain_of h⟩
abbrev FN := List PD → (PD → Prop) → Prop
def BiOk (K : PySem.W.Frag) (f : FN) (r : List V → Hp → VK → Prop) : Prop := ∀ (F H : Hp) (vs : List V) (xs : List PD) (k : PD → Prop) (Q : VK), Same F H → DrA K F H vs xs → f xs k →
  (∀ z v F' H', k z → Grow F H F' H' → Df K F' v z → Q v H') → r vs H Q
def dBi (f : FN) (t : TAd) : TD := fun ρ Q => t ρ fun as ρ1 => resA ρ1 as fun xs => f xs fun z => Q z ρ1
variable {g : FN} {rr : List V → Hp → VK → Prop} {tt : TAd} {x : Str} {p : Pos} {bid T : String}
theorem tCB_of [Pn] (hf : BiOk K g rr) {n : Nat} {Q : VK} (h : liftD K (dBi g tt) σ H Q) : tCB rr (liftA K n tt) σ H Q := by
  obtain ⟨G, ρ, F, Q', R, q, c⟩ := h
  refine ⟨G, ρ, F, _, R, q, fun as ρ1 vs H1 F1 h1 hl R1 s1 av => ?_⟩
  obtain ⟨xs, h2, d⟩ := resA_dr R1 av h1
  exact hf F1 H1 vs xs _ Q R1.fh d h2 fun z v F' H' kz g' d' => c _ _ _ _ _ kz (R1.grow g') (s1.trans g'.ff) d'
theorem LD.bi [Pn] (hc : CallR X (.builtin bid) rr) (hf : BiOk X.K g rr) (hg : Gl X x) (hm : X.mg x = none) (hv : bootBuiltins x = some (.builtin bid)) (ha : LA X (e :: es) tt) (hn : x ≠ "__name__" := by decide) (hdb : (x == ("__debug__" : Str)) = false := by decide)
    (he : starEach (e :: es) X.env = (false, eval e X.env) :: starEach es X.env := by rfl) (hpl : (backTo pos (starEach es X.env)).any (·.1) = false := by rfl) :
    LD X (.Call (.Name x p) (e :: es) [] pos) (dBi g tt) := ⟨peImp (pe_callB hc hg hm hv ha.p hn hdb he hpl) fun _ _ _ h => tCB_of hf h⟩
theorem LD.bt [Pn] (hc : CallR X (.type T) rr) (hf : BiOk X.K g rr) (hg : Gl X x) (hm : X.mg x = none) (hv : bootBuiltins x = some (.type T)) (ha : LA X (e :: es) tt) (hn : x ≠ "__name__" := by decide) (hdb : (x == ("__debug__" : Str)) = false := by decide)
    (he : starEach (e :: es) X.env = (false, eval e X.env) :: starEach es X.env := by rfl) (hpl : (backTo pos (starEach es X.env)).any (·.1) = false := by rfl) :
    LD X (.Call (.Name x p) (e :: es) [] pos) (dBi g tt) := ⟨peImp (pe_callTy hc hg hm hv ha.p hn hdb he hpl) fun _ _ _ h => tCB_of hf h⟩
theorem DrA.one {vs : List V} {x : PD} (h : DrA K F H vs [x]) : ∃ v, vs = [v] ∧ Dr K F H v x := by
  cases h with | cons a b => cases b; exact ⟨_, rfl, a⟩
theorem DrA.two {vs : List V} {x y : PD} (h : DrA K F H vs [x, y]) : ∃ v u, vs = [v, u] ∧ Dr K F H v x ∧ Dr K F H u y := by
  cases h with | cons a b => cases b with | cons b c => cases c; exact ⟨_, _, rfl, a, b⟩
def bLen : FN
  | [.list xs], k => k (.int (xs.length : Int))
  | [.tuple xs], k => k (.int (xs.length : Int))
  | [.str s], k => s.length ≤ sizeLine ∧ k (.int (s.length : Int))
  | _, _ => False
def rLenD (K : PySem.W.Frag) : List V → Hp → VK → Prop := fun xs H Q => (∃ p ys, xs = [.ref p] ∧ (SqL K H p ys ∨ SqT K H p ys) ∧ Q (.int ys.length) H) ∨ (∃ z, xs = [.str z] ∧ z.length ≤ sizeLine ∧ Q (.int z.length) H)
theorem call_lenU : CallR X (.builtin "len") (rLenD X.K) := fun pins s σ H xs us Q I r h => h.elim (fun h => call_len_seq pins s σ H xs us Q I r h) fun h => call_len_str pins s σ H xs us Q I r h
theorem ok_len : BiOk K bLen (rLenD K) := by
  intro F H vs xs k Q s d h c
  unfold bLen at h
  split at h
  · obtain ⟨v, rfl, d1⟩ := d.one
    obtain ⟨a, us, rfl, q, d3⟩ := d1.lst s
    refine .inl ⟨a, us, rfl, .inl (rdSq q), ?_⟩
    rw [d3.length]
    exact c _ _ F H h (Grow.refl s) (.int _)
  · obtain ⟨v, rfl, d1⟩ := d.one
    obtain ⟨a, us, rfl, q, d3⟩ := d1.tup s
    refine .inl ⟨a, us, rfl, .inr q, ?_⟩
    rw [d3.length]
    exact c _ _ F H h (Grow.refl s) (.int _)
  · obtain ⟨v, rfl, d1⟩ := d.one
    rw [d1.str]
    exact .inr ⟨_, rfl, h.1, c _ _ F H h.2 (Grow.refl s) (.int _)⟩
  · exact False.elim h
def bAbs : FN
  | [.int i], k => k (.int (if i < 0 then -i else i))
  | _, _ => False
theorem ok_abs : BiOk K bAbs (fun xs H Q => ∃ i, xs = [.int i] ∧ Q (.int (if i < 0 then -i else i)) H) := by
  intro F H vs xs k Q s d h c
  unfold bAbs at h
  split at h
  · obtain ⟨v, rfl, d1⟩ := d.one
    rw [d1.int]
    exact ⟨_, rfl, c _ _ F H h (Grow.refl s) (.int _)⟩
  · exact False.elim h
def bInt : FN
  | [.int i], k => k (.int i)
  | [.bool b], k => k (.int (if b then 1 else 0))
  | _, _ => False
theorem ok_int : BiOk K bInt (fun xs H Q => (∃ i, xs = [.int i] ∧ Q (.int i) H) ∨ ∃ k, xs = [.bl k] ∧ Q (.int (if k then 1 else 0)) H) := by
  intro F H vs xs k Q s d h c
  unfold bInt at h
  split at h
  · obtain ⟨v, rfl, d1⟩ := d.one
    rw [d1.int]
    exact .inl ⟨_, rfl, c _ _ F H h (Grow.refl s) (.int _)⟩
  · obtain ⟨v, rfl, d1⟩ := d.one
    rw [d1.bl]
    exact .inr ⟨_, rfl, c _ _ F H h (Grow.refl s) (.int _)⟩
  · exact False.elim h
def bMax2 : FN
  | [.int i, .int j], k => k (.int (if j > i then j else i))
  | _, _ => False
theorem ok_max2 : BiOk K bMax2 (fun xs H Q => ∃ i j, xs = [.int i, .int j] ∧ Q (.int (if j > i then j else i)) H) := by
  intro F H vs xs k Q s d h c
  unfold bMax2 at h
  split at h
  · obtain ⟨v, u, rfl, d1, d2⟩ := d.two
    rw [d1.int, d2.int]
    exact ⟨_, _, rfl, c _ _ F H h (Grow.refl s) (.int _)⟩
  · exact False.elim h
def bSum : FN
  | [.list xs], k => ∃ ns : List Int, xs = ns.map .int ∧ k (.int ns.sum)
  | _, _ => False
theorem dfa_ints {vs : List V} {ns : List Int} (h : DfA K F vs (ns.map .int)) : vs = ns.map V.int := by
  induction ns generalizing vs with
  | nil => cases h; rfl
  | cons n r ih =>
    cases h with
    | cons a b => cases a; rw [ih b]; rfl
theorem Dr.intList {v : V} {ns : List Int} (s : Same F H) (h : Dr K F H v (.list (ns.map .int))) : ∃ a, v = .ref a ∧ SqL K H a (ns.map V.int) := by
  obtain ⟨a, vs, rfl, q, d⟩ := h.lst s
  rw [dfa_ints d] at q
  exact ⟨a, rfl, rdSq q⟩
theorem ok_sum : BiOk K bSum (rSum K) := by
  intro F H vs xs k Q s d h c
  unfold bSum at h
  split at h
  · obtain ⟨v, rfl, d1⟩ := d.one
    obtain ⟨ns, rfl, h⟩ := h
    obtain ⟨a, rfl, q⟩ := d1.intList s
    exact ⟨a, ns, rfl, q, c _ _ F H h (Grow.refl s) (.int _)⟩
  · exact False.elim h
def bMax1 : FN
  | [.list xs], k => ∃ ns : List Int, xs = ns.map .int ∧ 0 < ns.length ∧ ∀ m, m ∈ ns → (∀ y, y ∈ ns → y ≤ m) → k (.int m)
  | _, _ => False
theorem ok_max1 : BiOk K bMax1 (rMax K) := by
  intro F H vs xs k Q s d h c
  unfold bMax1 at h
  split at h
  · obtain ⟨v, rfl, d1⟩ := d.one
    obtain ⟨ns, rfl, h1, h⟩ := h
    obtain ⟨a, rfl, q⟩ := d1.intList s
    exact ⟨a, ns, rfl, q, h1, fun m h2 h3 => c _ _ F H (h m h2 h3) (Grow.refl s) (.int _)⟩
  · exact False.elim h
def fList (t : TAd) : TF := fun ρ Q => t ρ fun as ρ1 => resA ρ1 as fun xs => match xs with
  | [.list ys] => Q (.ls none ys) ρ1
  | [.tuple ys] => Q (.ls none ys) ρ1
  | _ => False
theorem LF.list [Pn] (hg : Gl X "list") (hm : X.mg "list" = none) (ha : LA X (e :: es) tt)
    (he : starEach (e :: es) X.env = (false, eval e X.env) :: starEach es X.env := by rfl) (hpl : (backTo pos (starEach es X.env)).any (·.1) = false := by rfl) :
    LF X (.Call (.Name "list" p) (e :: es) [] pos) (fList tt) := ⟨peImp (pe_callTy call_list_of hg hm (by decide +kernel) ha.p (by decide) (by decide) he hpl) fun σ H Q ⟨G, ρ, F, Q', R, q, c⟩ => ⟨G, ρ, F, _, R, q, fun as ρ1 vs H1 F1 h1 hl R1 s1 av => by
  obtain ⟨xs, h2, d⟩ := resA_dr R1 av h1
  split at h2
  · obtain ⟨v, rfl, d1⟩ := d.one
    obtain ⟨a, us, rfl, q, d3⟩ := d1.lst R1.fh
    refine ⟨a, us, rfl, .inl (rdSq q), fun l hl => ?_⟩
    obtain ⟨R2, k⟩ := fresh_ok (l := .ls none _) (o := .lst us) R1 hl d3 rfl
    exact c _ _ _ _ _ h2 R2 s1 k
  · obtain ⟨v, rfl, d1⟩ := d.one
    obtain ⟨a, us, rfl, q, d3⟩ := d1.tup R1.fh
    refine ⟨a, us, rfl, .inr q, fun l hl => ?_⟩
    obtain ⟨R2, k⟩ := fresh_ok (l := .ls none _) (o := .lst us) R1 hl d3 rfl
    exact c _ _ _ _ _ h2 R2 s1 k
  · exact False.elim h2⟩⟩
def isTy (T : String) : PD → Bool
  | .none => false
  | .bool _ => T == "bool" || T == "int"
  | .int _ => T == "int"
  | .str _ => T == "str"
  | .list _ => T == "list"
  | .tuple _ => T == "tuple"
  | .dict _ => false
def tyD : PD → String
  | .none => "NoneType"
  | .bool _ => "bool"
  | .int _ => "int"
  | .str _ => "str"
  | .list _ => "list"
  | .tuple _ => "tuple"
  | .dict _ => "dict"
def plainD : PD → Bool
  | .dict _ => false
  | _ => true
def dIsi (T : String) (o : Op1) : TD := fun ρ Q => o.run ρ fun a ρ1 => res1 ρ1 a fun x => plainD x = true ∧ Q (.bool (isTy T x)) ρ1
theorem tyx_of {v : V} {x : PD} (h : Df K H v x) (hd : plainD x = true) : TyX K H v (.type (tyD x)) := by
  cases h with
  | non => exact .base .non
  | bl b => exact .base (.bl b)
  | int i => exact .base (.int i)
  | str i => exact .base (.str i)
  | lst q _ =>
    rcases q with q | ⟨o, q⟩
    · exact .base (.lst q)
    · exact .base (.frz q)
  | tup q _ =>
    rcases q with (q | ⟨o, q⟩) | ⟨o, its, n, q, cl, _⟩
    · exact .base (.tup q)
    · exact .fTuple q
    · exact .kTuple q cl
  | dk _ _ => cases hd
  | ins _ _ => cases hd
  | ex0 => cases hd
  | ex1 _ _ => cases hd
  | dkL _ _ => cases hd
  | ky _ => cases hd
theorem kit_all {x : PD} {T : String} (hT : T = "int" ∨ T = "bool" ∨ T = "str" ∨ T = "tuple" ∨ T = "list") (hd : plainD x = true) : PySem.W.kitOne K (.type (tyD x)) (.type T) = some (isTy T x) := by
  refine kit_ty ?_
  cases x <;> first | (cases hd; done) | skip
  all_goals (rcases hT with rfl | rfl | rfl | rfl | rfl <;> (dsimp only [tyD, isTy]; decide +kernel))
theorem LD.isi [Pn] {y : Str} {p2 : Pos} (T : String) (hT : T = "int" ∨ T = "bool" ∨ T = "str" ∨ T = "tuple" ∨ T = "list") (hg : Gl X "isinstance") (hm : X.mg "isinstance" = none) (hgT : Gl X y) (hmT : X.mg y = none) (hvT : bootBuiltins y = some (.type T)) (h : LO X e oa)
    (he : starEach [e, .Name y p2] X.env = (false, eval e X.env) :: starEach [.Name y p2] X.env := by rfl) (hpl : (backTo pos (starEach [.Name y p2] X.env)).any (·.1) = false := by rfl) (he2 : starEach [.Name y p2] X.env = (false, eval (.Name y p2) X.env) :: starEach [] X.env := by rfl)
    (hn : y ≠ "__name__" := by decide) (hdb : (y == ("__debug__" : Str)) = false := by decide) :
    LD X (.Call (.Name "isinstance" p) [e, .Name y p2] [] pos) (dIsi T oa) :=
  ⟨peImp (pe_callB call_isi hg hm (by decide +kernel) (pa_cons h.p (pa_cons (pe_bltn (v := .ty T) hgT hmT hvT rfl hn hdb) pa_nil he2) he) (by decide) (by decide) he hpl) fun σ H Q ⟨G, ρ, F, Q', R, q, c⟩ => ⟨G, ρ, F, _, R, q, fun a ρ1 v H1 F1 h1 R1 s1 av => by
    obtain ⟨x, ⟨hd, h2⟩, d⟩ := res1_dr R1 av h1
    exact ⟨v, .ty T, _, _, _, rfl, .ty T, tyx_of (d.df R1.fh) hd, kit_all hT hd, c _ _ _ _ _ h2 R1 s1 (.bl _)⟩⟩⟩
def bIx : F2
  | .list xs, .int i, k => ∃ d, atI xs i = some d ∧ k d
  | .tuple xs, .int i, k => ∃ d, atI xs i = some d ∧ k d
  | .str z, .int i, k => z.length ≤ sizeLine ∧ ∃ c, atI z.cps.toList i = some c ∧ k (.str ⟨#[c]⟩)
  | _, _, _ => False
theorem atI_df {vs : List V} {xs : List PD} {d : PD} {i : Int} (h : DfA K F vs xs) (e : atI xs i = some d) : ∃ v, atI vs i = some v ∧ Df K F v d := by
  unfold atI at e ⊢
  rw [h.length]
  cases q : ixN xs.length i with
  | none => rw [q] at e; cases e
  | some j =>
    rw [q] at e
    obtain ⟨v, h1, h2⟩ := h.get (i := j) e
    exact ⟨v, h1, h2⟩
theorem ok_ix : Op2Ok K bIx (rIx K) := by
  intro F H vx vy x y k Q s dx dy h c
  unfold bIx at h
  split at h
  · obtain ⟨a, vs, rfl, q, d⟩ := dx.lst s
    obtain ⟨z, h1, h2⟩ := h
    obtain ⟨v, h3, h4⟩ := atI_df d h1
    rw [dy.int]
    exact .inl ⟨a, vs, _, v, rfl, rfl, rdSq q, h3, c _ _ F H h2 (Grow.refl s) h4⟩
  · obtain ⟨a, vs, rfl, q, d⟩ := dx.tup s
    obtain ⟨z, h1, h2⟩ := h
    obtain ⟨v, h3, h4⟩ := atI_df d h1
    rw [dy.int]
    exact .inr (.inl ⟨a, vs, _, v, rfl, rfl, q, h3, c _ _ F H h2 (Grow.refl s) h4⟩)
  · obtain ⟨h0, z, h1, h2⟩ := h
    rw [dx.str, dy.int]
    exact .inr (.inr ⟨_, _, z, rfl, rfl, h0, h1, c _ _ F H h2 (Grow.refl s) (.str _)⟩)
  · exact False.elim h
theorem LD.ix [Pn] (ha : LO X e oa) (hb : LO X e2 ob) (hs : PlainIx e2) : LD X (.Subscript e e2 pos) (dBin bIx oa ob) := ⟨peImp (pe_ix ix_seq ha.p hb.p hs) fun _ _ _ h => tOp_of ok_ix h⟩
abbrev TPd := En → (Option Int → En → Prop) → Prop
def pNone : TPd := fun ρ Q => Q none ρ
def pSome (o : Op1) : TPd := fun ρ Q => o.run ρ fun a ρ1 => res1 ρ1 a fun x => match x with
  | .int i => Q (some i) ρ1
  | _ => False
def liftP [Pn] (K : PySem.W.Frag) (t : TPd) : TO := fun σ H Q => ∃ G ρ F Q', Rel K G ρ F σ H ∧ t ρ Q' ∧ ∀ i ρ' H' F', Q' i ρ' → Rel K G ρ' F' σ H' → Same F F' → Q i H'
structure LP [Pn] (X : Cx) (e : Option Expr) (t : TPd) : Prop where
  p : PO X e (liftP X.K t)
theorem poImp {e : Option Expr} {t t' : TO} (h : PO X e t) (w : ∀ σ H Q, t' σ H Q → t σ H Q) : PO X e t' := ⟨fun pins s σ H Q I q => h.run pins s σ H Q I (w _ _ _ q)⟩
theorem LP.none [Pn] : LP X none pNone := ⟨poImp po_none fun σ H Q ⟨G, ρ, F, Q', R, q, c⟩ => c _ _ _ F q R (Same.refl _)⟩
theorem LP.some [Pn] (h : LO X e oa) : LP X (some e) (pSome oa) := ⟨poImp (po_some h.p) fun σ H Q ⟨G, ρ, F, Q', R, q, c⟩ => ⟨G, ρ, F, _, R, q, fun a ρ1 v H1 F1 h1 R1 s1 av => by
  obtain ⟨x, h2, d⟩ := res1_dr R1 av h1
  split at h2
  · rw [d.int]
    exact ⟨_, rfl, c _ _ _ _ h2 R1 s1⟩
  · exact False.elim h2⟩⟩
def cutD {α : Type} (xs : List α) (lo hi : Option Int) : List α := (xs.drop (HT.sIx xs.length 0 lo)).take (HT.sIx xs.length xs.length hi - HT.sIx xs.length 0 lo)
def dSl (oa : Op1) (lo hi : TPd) : TD := fun ρ Q => oa.run ρ fun a ρ1 => lo ρ1 fun i ρ2 => hi ρ2 fun j ρ3 => res1 ρ3 a fun x => match x with
  | .list xs => Q (.list (cutD xs i j)) ρ3
  | .tuple xs => Q (.tuple (cutD xs i j)) ρ3
  | .str z => z.length ≤ sizeLine ∧ Q (.str (cutS z i j)) ρ3
  | _ => False
theorem cut_df {vs : List V} {xs : List PD} (h : DfA K F vs xs) (i j : Option Int) : DfA K F (cutV vs i j) (cutD xs i j) := by
  unfold cutV cutD
  rw [h.length]
  exact (h.drop _).take _
theorem cut_whole {α : Type} {xs : List α} {i j : Option Int} (h : HT.sIx xs.length 0 i = 0 ∧ HT.sIx xs.length xs.length j = xs.length) : cutD xs i j = xs := by
  unfold cutD
  rw [h.1, h.2, List.drop_zero, Nat.sub_zero, List.take_length]
theorem LD.sl [Pn] {lo hi : Option Expr} {tl th : TPd} {p2 : Pos} (ha : LO X e oa) (hl : LP X lo tl) (hh : LP X hi th) : LD X (.Subscript e (.Slice lo hi none p2) pos) (dSl oa tl th) :=
  ⟨peImp (pe_slice (sl_list.or (sl_tupA.or sl_str)) ha.p hl.p hh.p) fun σ H Q ⟨G, ρ, F, Q', R, q, c⟩ => ⟨G, ρ, F, _, R, q, fun a ρ1 v H1 F1 h1 R1 s1 av => ⟨G, ρ1, F1, _, R1, h1, fun i ρ2 H2 F2 h2 R2 s2 => ⟨G, ρ2, F2, _, R2, h2, fun j ρ3 H3 F3 h3 R3 s3 => by
    obtain ⟨x, h4, d⟩ := res1_dr R3 (av.mono (s2.trans s3)) h3
    have s := (s1.trans s2).trans s3
    split at h4
    · obtain ⟨b, vs, rfl, q, d'⟩ := d.lst R3.fh
      refine .inl ⟨b, vs, rfl, rdSq q, fun p hp => ?_⟩
      have g := Grow.frozen R3.fh hp (.lst (cutV vs i j))
      exact c _ _ _ _ _ h4 (R3.grow g) (s.trans g.ff) (.lst (.inl upd_same) ((cut_df d' i j).mono g.ff))
    · obtain ⟨b, vs, rfl, q, d'⟩ := d.tup R3.fh
      refine .inr (.inl ⟨b, vs, rfl, q, fun hw => ?_, fun _ p hp => ?_⟩)
      · have e1 : cutD _ i j = _ := cut_whole (xs := ‹List PD›) (by rw [← d'.length]; exact hw)
        rw [e1] at h4
        cases d with
        | f d => exact c _ _ _ _ _ h4 R3 s d
      · have g := Grow.frozen R3.fh hp (.tup (cutV vs i j))
        exact c _ _ _ _ _ h4 (R3.grow g) (s.trans g.ff) (.tup (SqT.of upd_same) ((cut_df d' i j).mono g.ff))
    · rw [d.str]
      exact .inr (.inr ⟨_, rfl, h4.1, c _ _ _ _ _ h4.2 R3 s (.str _)⟩)
    · exact False.elim h4⟩⟩⟩⟩
end
end DL
namespace DL
open PySem L2 PyProof.Rows
structure DE where
  nx : En → Prop
  rt : Lc → En → Prop
  bk : En → Prop := fun _ => False
  ct : En → Prop := fun _ => False
abbrev TSt := DE → En → Prop
structure CtOk [Pn] (K : PySem.W.Frag) (G : Gm) (F : Hp) (D' : DE) (D : Ends) : Prop where
  nx : ∀ ρ σ H F', D'.nx ρ → Rel K G ρ F' σ H → Same F F' → D.nx σ H
  rt : ∀ l ρ v σ H F', D'.rt l ρ → Rel K G ρ F' σ H → Same F F' → RsOk K G F' H ρ σ l v → D.rt v H
  bk : ∀ ρ σ H F', D'.bk ρ → Rel K G ρ F' σ H → Same F F' → D.bk σ H
  ct : ∀ ρ σ H F', D'.ct ρ → Rel K G ρ F' σ H → Same F F' → D.ct σ H
theorem CtOk.mono [Pn] {K : PySem.W.Frag} {G : Gm} {F F' : Hp} {D' : DE} {D : Ends} (c : CtOk K G F D' D) (s : Same F F') : CtOk K G F' D' D :=
  ⟨fun ρ σ H F2 h R s2 => c.nx ρ σ H F2 h R (s.trans s2), fun l ρ v σ H F2 h R s2 r => c.rt l ρ v σ H F2 h R (s.trans s2) r, fun ρ σ H F2 h R s2 => c.bk ρ σ H F2 h R (s.trans s2), fun ρ σ H F2 h R s2 => c.ct ρ σ H F2 h R (s.trans s2)⟩
def liftS [Pn] (K : PySem.W.Frag) (t : TSt) : TS := fun D σ H => ∃ G ρ F D', Rel K G ρ F σ H ∧ t D' ρ ∧ CtOk K G F D' D
structure LS [Pn] (X : Cx) (st : Stmt) (t : TSt) : Prop where
  p : PS X st (liftS X.K t)
structure LSs [Pn] (X : Cx) (st : List Stmt) (t : TSt) : Prop where
  p : PSs X st (liftS X.K t)
section
variable {G : Gm} {X : Cx} {K : PySem.W.Frag} {F F' H H' : Hp} {ρ : En} {σ : L2.St} {e e2 e3 : Expr} {es : List Expr} {pos : Pos} {oa ob oc : Op1} {ta tb : TD} {c : TTd} {st : Stmt} {sts sts2 : List Stmt} {t u : TSt} {tf tf2 : TF}
def sNext : TSt := fun D ρ => D.nx ρ
def force : En → (En → Prop) → Prop
  | [], k => k []
  | a :: r, k => force r fun r' => k (a :: r')
theorem force_eq : ∀ (ρ : En) (k : En → Prop), force ρ k = k ρ
  | [], _ => rfl
  | a :: r, k => force_eq r fun r' => k (a :: r')
def sSeq (t u : TSt) : TSt := fun D ρ => t { D with nx := fun ρ' => force ρ' fun ρ'' => u D ρ'' } ρ
theorem LSs.nil [Pn] : LSs X [] sNext := ⟨pssImp pss_nil fun D σ H ⟨G, ρ, F, D', R, h, k⟩ => k.nx _ _ _ _ h R (Same.refl _)⟩
theorem LSs.cons [Pn] (h1 : LS X st t) (h2 : LSs X sts u) : LSs X (st :: sts) (sSeq t u) := ⟨pssImp (pss_cons h1.p h2.p) fun D σ H ⟨G, ρ, F, D', R, h, k⟩ =>
  ⟨G, ρ, F, _, R, h, ⟨fun ρ1 σ1 H1 F1 h1 R1 s1 => ⟨G, ρ1, F1, D', R1, (by have h1 : force ρ1 (fun ρ'' => u D' ρ'') := h1; rw [force_eq] at h1; exact h1), k.mono s1⟩, k.rt, k.bk, k.ct⟩⟩⟩
theorem LSs.one [Pn] (h1 : LS X st t) : LSs X [st] t := ⟨pss_one h1.p⟩
def sBrk : TSt := fun D ρ => D.bk ρ
def sCnt : TSt := fun D ρ => D.ct ρ
theorem LS.brk [Pn] : LS X (.Break pos) sBrk := ⟨psImp ps_break fun D σ H ⟨G, ρ, F, D', R, h, k⟩ => k.bk _ _ _ _ h R (Same.refl _)⟩
theorem LS.cnt [Pn] : LS X (.Continue pos) sCnt := ⟨psImp ps_continue fun D σ H ⟨G, ρ, F, D', R, h, k⟩ => k.ct _ _ _ _ h R (Same.refl _)⟩
def sDrop (t : TD) : TSt := fun D ρ => t ρ fun _ ρ1 => D.nx ρ1
theorem LS.drop [Pn] (h : LD X e ta) (hs : swapsWith e none pos.line X.env = pure false := by rfl) : LS X (.Expr e pos) (sDrop ta) := ⟨psImp (ps_expr h.p hs) fun D σ H ⟨G, ρ, F, D', R, q, k⟩ =>
  ⟨G, ρ, F, _, R, q, fun x ρ1 v H1 F1 h1 R1 s1 _ => k.nx _ _ _ _ h1 R1 s1⟩⟩
def sRet (t : TF) : TSt := fun D ρ => t ρ D.rt
theorem LS.ret [Pn] (h : LF X e tf) : LS X (.Return (some e) pos) (sRet tf) := ⟨psImp (ps_ret h.p) fun D σ H ⟨G, ρ, F, D', R, q, k⟩ =>
  ⟨G, ρ, F, _, R, q, fun l ρ1 v H1 F1 h1 R1 s1 r1 => k.rt _ _ _ _ _ _ h1 R1 s1 r1⟩⟩
def sRetV (i : Nat) : TSt := fun D ρ => match ρ[i]? with
  | some (some (.d x)) => D.rt (.d x) ρ
  | some (some l) => if (l.own && l.tag.isNone) = true then D.rt l (ρ.set i none) else False
  | _ => False
theorem Rel.leave [Pn] {i : Nat} {l : Lc} {a : Addr} (R : Rel K G ρ F σ H) (er : ρ[i]? = some (some l)) (ho : l.own = true) (es : σ[i]? = some (some (.ref a))) : Frs K G F H (ρ.set i none) σ l a := by
  have sub : ∀ (j : Nat) (m : Lc), (ρ.set i none)[j]? = some (some m) → ρ[j]? = some (some m) ∧ j ≠ i := fun j m e => by
    rcases set_get e with ⟨_, _, w⟩ | ⟨hj, e⟩
    · cases w
    · exact ⟨e, hj⟩
  refine ⟨fun j m e hm z => (sub j m e).2 (R.ds j i m l _ (sub j m e).1 er hm ho z es), (R.noN_at er ho es).drop i, fun b xs hb => ?_⟩
  obtain ⟨n1, n2⟩ := R.ns i l b xs er hb
  exact ⟨n1, fun e => (n2 i l er).1 ho (by rw [es, e]), fun j m e hm => (n2 j m (sub j m e).1).1 hm, fun j m ys e hy => (sub j m e).2 ((n2 j m (sub j m e).1).2 ys hy)⟩
theorem LS.retV [Pn] (i : Nat) (h : PE X e (tVar i)) : LS X (.Return (some e) pos) (sRetV i) := ⟨psImp (ps_ret h) fun D σ H ⟨G, ρ, F, D', R, q, k⟩ => by
  unfold sRetV at q
  split at q
  · rename_i x er
    obtain ⟨v, e1, d⟩ := R.sl i _ er
    exact ⟨v, e1, k.rt _ _ _ _ _ _ q R (Same.refl _) d⟩
  · rename_i l nd er
    split at q
    · rename_i hz
      rw [Bool.and_eq_true] at hz
      have ht : l.tag = none := by simpa using hz.2
      obtain ⟨a, es, at_⟩ := R.at_ er hz.1
      have fr : Frs X.K G F H (ρ.set i none) σ l a := by
        have sub : ∀ (j : Nat) (m : Lc), (ρ.set i none)[j]? = some (some m) → ρ[j]? = some (some m) ∧ j ≠ i := fun j m e => by
          rcases set_get e with ⟨_, _, w⟩ | ⟨hj, e⟩
          · cases w
          · exact ⟨e, hj⟩
        refine ⟨fun j m e hm z => (sub j m e).2 (R.ds j i m l _ (sub j m e).1 er hm hz.1 z es), (R.noN_at er hz.1 es).drop i, fun b xs hb => ?_⟩
        obtain ⟨n1, n2⟩ := R.ns i l b xs er hb
        exact ⟨n1, fun e => (n2 i l er).1 hz.1 (by rw [es, e]), fun j m e hm => (n2 j m (sub j m e).1).1 hm, fun j m ys e hy => (sub j m e).2 ((n2 j m (sub j m e).1).2 ys hy)⟩
      refine ⟨_, es, k.rt l _ _ _ _ _ q (R.drop i) (Same.refl _) ?_⟩
      cases l with
      | d x => exact absurd rfl (nd x)
      | sc u => simp [Lc.own] at hz
      | _ => exact ⟨a, rfl, ht, at_, fr⟩
    · exact False.elim q
  · exact False.elim q⟩
def sIf (c : TTd) (t u : TSt) : TSt := fun D ρ => c ρ fun b ρ1 => brB b (t D ρ1) (u D ρ1)
theorem LS.ite [Pn] (h : LT X e c) (h1 : LSs X sts t) (h2 : LSs X sts2 u) : LS X (.If e sts sts2 pos) (sIf c t u) := ⟨psImp (ps_if h.p h1.p h2.p) fun D σ H ⟨G, ρ, F, D', R, q, k⟩ =>
  ⟨G, ρ, F, _, R, q, fun b ρ1 H1 F1 h1 R1 s1 => by
    cases b with
    | true => exact ⟨G, ρ1, F1, D', R1, h1.1 rfl, k.mono s1⟩
    | false => exact ⟨G, ρ1, F1, D', R1, h1.2 rfl, k.mono s1⟩⟩⟩
def sAsg (i : Nat) (t : TF) : TSt := fun D ρ => t ρ fun l ρ1 => D.nx (ρ1.set i (some l))
theorem RsOk.slot {l : Lc} {v : V} (h : RsOk K G F H ρ σ l v) : SlotOk K G F H l (some (some v)) ∧ (l.own = true → ∀ (j : Nat) (m : Lc), ρ[j]? = some (some m) → m.own = true → σ[j]? ≠ some (some v)) := by
  cases l with
  | d x => exact ⟨⟨v, rfl, h⟩, fun z => by cases z⟩
  | sc u => exact ⟨⟨v, rfl, h⟩, fun z => by cases z⟩
  | ls p xs => obtain ⟨a, rfl, _, z, hf⟩ := h; exact ⟨⟨a, rfl, z⟩, fun _ => hf.hf⟩
  | dk p xs => obtain ⟨a, rfl, _, z, hf⟩ := h; exact ⟨⟨a, rfl, z⟩, fun _ => hf.hf⟩
  | dt p xs => obtain ⟨a, rfl, _, z, hf⟩ := h; exact ⟨⟨a, rfl, z⟩, fun _ => hf.hf⟩
  | ob p C xs => obtain ⟨a, rfl, _, z, hf⟩ := h; exact ⟨⟨a, rfl, z⟩, fun _ => hf.hf⟩
  | nb p C fs ns => obtain ⟨a, rfl, _, z, hf⟩ := h; exact ⟨⟨a, rfl, z⟩, fun _ => hf.hf⟩
  | ln p xs => obtain ⟨a, rfl, _, z, hf⟩ := h; exact ⟨⟨a, rfl, z⟩, fun _ => hf.hf⟩
theorem RsOk.ref_own {l : Lc} {v : V} (ho : l.own = true) : RsOk K G F H ρ σ l v ↔ ∃ a, v = .ref a ∧ l.tag = none ∧ At K G F H l a ∧ Frs K G F H ρ σ l a := by
  cases l <;> first | exact Iff.rfl | (simp [Lc.own] at ho)
theorem RsOk.slotN {l : Lc} {v : V} (h : RsOk K G F H ρ σ l v) (ho : l.own = true) : (∀ a, v = .ref a → NoN ρ a) ∧ NsR K G F H ρ σ l v := by
  rw [RsOk.ref_own ho] at h
  obtain ⟨a, rfl, _, _, f⟩ := h
  exact ⟨fun b e => by cases e; exact f.hn, f.ns⟩
theorem RsOk.store [Pn] {l : Lc} {v : V} (R : Rel K G ρ F σ H) (h : RsOk K G F H ρ σ l v) (i : Nat) : Rel K G (ρ.set i (some l)) F (σ.set i (some v)) H := R.store i h.slot.1 h.slot.2 h.slotN
theorem LS.asg [Pn] {i : Nat} {x : Str} {pos' : Pos} (hN : X.N.Nodup) (hi : X.N[i]? = some x) (hx : Loc X.env.scope x) (h : LF X e tf) (hs : swapsWith e (some (.Name x pos')) pos.line X.env = pure false := by rfl)
    (hf : X.fn x = true ∨ X.env.scope.names.lookup x = some .local := by first | exact .inl rfl | exact .inr rfl) : LS X (.Assign [.Name x pos'] e pos) (sAsg i tf) := ⟨psImp (ps_set hN hi hx h.p hs hf) fun D σ H ⟨G, ρ, F, D', R, q, k⟩ =>
  ⟨G, ρ, F, _, R, q, fun l ρ1 v H1 F1 h1 R1 s1 r1 => k.nx _ _ _ _ h1 (r1.store R1 i) s1⟩⟩
def sPar (i j : Nat) (t u : TF) : TSt := fun D ρ => t ρ fun l ρ1 => u ρ1 fun m ρ2 => D.nx ((ρ2.set i (some l)).set j (some m))
theorem At.unpin {l : Lc} {b p : Addr} {o : HO} (z : At K (G.pin p o) F H l b) (h0 : G.H0 p = none) (hio : p ∉ G.io) : At K G F H l b ∧ b ≠ p := by
  have hp : (G.pin p o).H0 p = some o := if_pos rfl
  have ow := z.ow
  have nb : b ≠ p := fun q => by
    subst q
    cases e : l.tag with
    | none => rw [e] at ow; have ow : (G.pin b o).H0 b = none := ow; rw [hp] at ow; cases ow
    | some k => rw [e] at ow; exact hio (List.mem_of_getElem? ow)
  refine ⟨⟨z.nf, ?_, z.ob⟩, nb⟩
  cases e : l.tag with
  | none =>
    rw [e] at ow
    have ow : (if b = p then some o else G.H0 b) = none := ow
    rw [if_neg nb] at ow; exact ow
  | some k => rw [e] at ow; exact ow
theorem At.unpins {l : Lc} {b : Addr} : ∀ {L : List (Addr × HO)} {G : Gm}, (L.map (·.1)).Nodup → (∀ q ∈ L, G.H0 q.1 = none ∧ q.1 ∉ G.io) → At K (G.pins L) F H l b → At K G F H l b ∧ ∀ q ∈ L, b ≠ q.1
  | [], G, _, _, z => ⟨z, fun _ w => absurd w List.not_mem_nil⟩
  | q :: r, G, nd, h, z => by
    rw [List.map_cons, List.nodup_cons] at nd
    obtain ⟨h1, h2⟩ := h q List.mem_cons_self
    obtain ⟨z1, w⟩ := At.unpins (G := G.pin q.1 q.2) nd.2 (fun x hx => by
      obtain ⟨g1, g2⟩ := h x (List.mem_cons_of_mem _ hx)
      exact ⟨by rw [Gm.pin_ne fun e => nd.1 (by rw [← e]; exact List.mem_map_of_mem hx)]; exact g1, g2⟩) z
    obtain ⟨z2, ne⟩ := z1.unpin h1 h2
    refine ⟨z2, fun x hx => ?_⟩
    rcases List.mem_cons.mp hx with rfl | hx
    · exact ne
    · exact w x hx
theorem Ns.unpins {b : Addr} {t : Option Nat} {xs : List PD} : ∀ {L : List (Addr × HO)} {G : Gm}, (L.map (·.1)).Nodup → (∀ q ∈ L, G.H0 q.1 = none ∧ q.1 ∉ G.io) → Ns K (G.pins L) F H t b xs → Ns K G F H t b xs ∧ ∀ q ∈ L, b ≠ q.1
  | [], G, _, _, z => ⟨z, fun _ w => absurd w List.not_mem_nil⟩
  | q :: r, G, nd, h, z => by
    rw [List.map_cons, List.nodup_cons] at nd
    obtain ⟨h1, h2⟩ := h q List.mem_cons_self
    obtain ⟨z1, w⟩ := Ns.unpins (G := G.pin q.1 q.2) nd.2 (fun x hx => by
      obtain ⟨g1, g2⟩ := h x (List.mem_cons_of_mem _ hx)
      exact ⟨by rw [Gm.pin_ne fun e => nd.1 (by rw [← e]; exact List.mem_map_of_mem hx)]; exact g1, g2⟩) z
    have ne : b ≠ q.1 := fun e => by
      rcases z1.ow with o | o
      · have o : (if b = q.1 then some q.2 else G.H0 b) = none := o
        rw [if_pos e] at o; cases o
      · obtain ⟨_, _, _, o⟩ := o; exact h2 (by rw [← e]; exact o)
    refine ⟨⟨z1.nf, ?_, z1.ob⟩, fun x hx => ?_⟩
    · rcases z1.ow with o | o
      · rw [Gm.pin_ne ne] at o; exact .inl o
      · exact .inr o
    · rcases List.mem_cons.mp hx with rfl | hx
      · exact ne
      · exact w x hx
structure Apt (l : Lc) (v : V) (m : Lc) (w : V) : Prop where
  ne : l.own = true → m.own = true → w ≠ v
  lw : ∀ b xs, (b, xs) ∈ l.fp → (m.own = true → w ≠ .ref b) ∧ ∀ ys, (b, ys) ∉ m.fp
  mv : ∀ b xs, (b, xs) ∈ m.fp → l.own = true → v ≠ .ref b
theorem RsOk.keep [Pn] {l : Lc} {v : V} (R : Rel K G ρ F σ H) (h : RsOk K G F H ρ σ l v) :
    ∃ G', Rel K G' ρ F σ H ∧ ∀ {ρ' F' H'}, Rel K G' ρ' F' σ H' → Same F F' → Rel K G ρ' F' σ H' ∧ RsOk K G F' H' ρ' σ l v ∧
      ∀ {m : Lc} {w : V}, RsOk K G' F' H' ρ' σ m w → RsOk K G F' H' ρ' σ m w ∧ Apt l v m w := by
  cases ho : l.own with
  | true =>
    rw [RsOk.ref_own ho] at h
    obtain ⟨a, ev, ht, ⟨nf, ow, o, eo, ok⟩, hf⟩ := h
    subst ev
    have n0 : G.H0 a = none := by rw [ht] at ow; exact ow
    have nio : ∀ {b : Addr}, G.H0 b = none → b ∉ G.io := fun {b} n z => (R.ih b z).2 n
    have no : ∀ us, o ≠ .tup us := fun us z => by subst z; cases l <;> exact False.elim ok
    obtain ⟨L, hL⟩ : ∃ L : List (Addr × HO), L = (a, o) :: l.fp.map fun x => (x.1, (H x.1).getD (.lst [])) := ⟨_, rfl⟩
    have e1 : L.map (·.1) = a :: l.fp.map (·.1) := by rw [hL, List.map_cons, List.map_map]; rfl
    have nd : (L.map (·.1)).Nodup := by
      rw [e1]
      refine List.nodup_cons.mpr ⟨fun z => ?_, ok.fp_nodup⟩
      obtain ⟨x, hx, ex⟩ := List.mem_map.mp z
      exact (hf.ns x.1 x.2 hx).2.1 (by rw [ex])
    have all : ∀ q ∈ L, F q.1 = none ∧ H q.1 = some q.2 ∧ G.H0 q.1 = none ∧ NoS ρ σ q.1 ∧ NoN ρ q.1 ∧ ∀ us, q.2 ≠ .tup us := fun q hq => by
      rw [hL] at hq
      rcases List.mem_cons.mp hq with rfl | hq
      · exact ⟨nf, eo, n0, hf.hf, hf.hn, no⟩
      · obtain ⟨x, hx, rfl⟩ := List.mem_map.mp hq
        obtain ⟨⟨z1, z2, vs, z3, z4⟩, _, z5, z6⟩ := hf.ns x.1 x.2 hx
        rw [ht] at z2
        refine ⟨z1, ?_, z2.elim id (fun z => by obtain ⟨_, z, _⟩ := z; cases z), z5, z6, ?_⟩
        · show H x.1 = some ((H x.1).getD _); rw [z3]; rfl
        · show ∀ us, (H x.1).getD _ ≠ .tup us
          rw [z3]
          intro us z; cases z
    have all2 : ∀ q ∈ L, G.H0 q.1 = none ∧ G.F0 q.1 = none ∧ q.1 ∉ G.io ∧ ∀ us, q.2 ≠ .tup us := fun q hq => by
      obtain ⟨z1, z2, z3, _, _, z4⟩ := all q hq
      exact ⟨z3, R.ff.free z1, nio z3, z4⟩
    refine ⟨G.pins L, Rel.pins nd all R, fun {ρ' F' H'} R' s => ?_⟩
    obtain ⟨R2, w⟩ := Rel.unpins R.ok nd all2 R'
    have all3 : ∀ q ∈ L, G.H0 q.1 = none ∧ q.1 ∉ G.io := fun q hq => ⟨(all2 q hq).1, (all2 q hq).2.2.1⟩
    have ma : (a, o) ∈ L := by rw [hL]; exact List.mem_cons_self
    have mb : ∀ b xs, (b, xs) ∈ l.fp → (b, (H b).getD (.lst [])) ∈ L := fun b xs hb => by rw [hL]; exact List.mem_cons_of_mem _ (List.mem_map.mpr ⟨(b, xs), hb, rfl⟩)
    obtain ⟨f2, h2, hf2, hn2⟩ := w _ ma
    refine ⟨R2, (RsOk.ref_own ho).mpr ⟨a, rfl, ht, ⟨f2, by rw [ht]; exact n0, o, h2, ok.mono s⟩, hf2, hn2, fun b xs hb => ?_⟩, fun {m u} r => ?_⟩
    · obtain ⟨⟨z1, z2, vs, z3, z4⟩, z0, _, _⟩ := hf.ns b xs hb
      obtain ⟨g1, g2, g3, g4⟩ := w _ (mb b xs hb)
      have g2 : H' b = some ((H b).getD (.lst [])) := g2
      rw [z3] at g2
      exact ⟨⟨g1, z2, vs, g2, z4.mono s⟩, z0, g3, g4⟩
    · cases hm : m.own with
      | true =>
        rw [RsOk.ref_own hm] at r ⊢
        obtain ⟨b, ew, hb, z, hf3⟩ := r
        subst ew
        obtain ⟨z1, z2⟩ := At.unpins nd all3 z
        have nsm : ∀ c xs, (c, xs) ∈ m.fp → Ns K G F' H' m.tag c xs ∧ ∀ q ∈ L, c ≠ q.1 := fun c xs hc => Ns.unpins nd all3 (hf3.ns c xs hc).1
        refine ⟨⟨b, rfl, hb, z1, ⟨hf3.hf, hf3.hn, fun c xs hc => ⟨(nsm c xs hc).1, (hf3.ns c xs hc).2⟩⟩⟩, ⟨fun _ _ q => z2 _ ma (V.ref.inj q), fun c xs hc => ⟨fun _ q => z2 _ (mb c xs hc) (V.ref.inj q), fun ys q => (nsm c ys q).2 _ (mb c xs hc) rfl⟩, fun c xs hc _ q => (nsm c xs hc).2 _ ma (V.ref.inj q).symm⟩⟩
      | false =>
        refine ⟨?_, ⟨fun _ z => (by rw [hm] at z; cases z), fun c xs hc => ⟨fun z => (by rw [hm] at z; cases z), fun ys q => (by rw [Lc.fp_own hm] at q; cases q)⟩, fun c xs hc => (by rw [Lc.fp_own hm] at hc; cases hc)⟩⟩
        rcases not_own hm with ⟨x, rfl⟩ | ⟨u, rfl⟩
        · exact r
        · exact r
  | false =>
    refine ⟨G, R, fun {ρ' F' H'} R' s => ⟨R', ?_, fun {m w} r => ⟨r, ⟨fun z => (by rw [ho] at z; cases z), fun b xs hb => (by rw [Lc.fp_own ho] at hb; cases hb), fun b xs _ z => (by rw [ho] at z; cases z)⟩⟩⟩⟩
    rcases not_own ho with ⟨x, rfl⟩ | ⟨u, rfl⟩
    · exact Df.mono s h
    · exact ScOk.mono s h
theorem RsOk.store2 [Pn] {l m : Lc} {v w : V} (R : Rel K G ρ F σ H) (r3 : RsOk K G F H ρ σ l v) (r4 : RsOk K G F H ρ σ m w) (ap : Apt l v m w) (i j : Nat) :
    Rel K G ((ρ.set i (some l)).set j (some m)) F ((σ.set i (some v)).set j (some w)) H := by
  have R4 := r3.store R i
  refine R4.store j r4.slot.1 (fun hm jj mm e hmm z => ?_) fun hm => ⟨fun a ew jj mm ys e hy => ?_, fun b xs hb => ?_⟩
  · rcases set_get e with ⟨rfl, hl, w'⟩ | ⟨hne, e'⟩
    · cases w'
      rw [List.getElem?_set_self (by rw [R.len]; exact hl)] at z
      exact ap.ne hmm hm (by simpa using z.symm)
    · rw [List.getElem?_set_ne (Ne.symm hne)] at z
      exact r4.slot.2 hm jj mm e' hmm z
  · rcases set_get e with ⟨rfl, hl, w'⟩ | ⟨hne, e'⟩
    · cases w'; exact (ap.lw a ys hy).1 hm ew
    · exact (r4.slotN hm).1 a ew jj mm ys e' hy
  · obtain ⟨n1, n2, n3, n4⟩ := (r4.slotN hm).2 b xs hb
    refine ⟨n1, n2, fun jj mm e hmm z => ?_, fun jj mm ys e hy => ?_⟩
    · rcases set_get e with ⟨rfl, hl, w'⟩ | ⟨hne, e'⟩
      · cases w'
        rw [List.getElem?_set_self (by rw [R.len]; exact hl)] at z
        exact ap.mv b xs hb hmm (by simpa using z)
      · rw [List.getElem?_set_ne (Ne.symm hne)] at z
        exact n3 jj mm e' hmm z
    · rcases set_get e with ⟨rfl, hl, w'⟩ | ⟨hne, e'⟩
      · cases w'; exact (ap.lw b ys hy).2 xs hb
      · exact n4 jj mm ys e' hy
theorem LS.par [Pn] {i j : Nat} {x y : Str} {px py pt : Pos} {kt k2 : Nat} {pt2 : Pos} (hc : X.calm = true) (hN : X.N.Nodup) (hi : X.N[i]? = some x) (hj : X.N[j]? = some y) (hij : i ≠ j)
    (hx : X.env.scope.names.lookup x = some .local) (hy : X.env.scope.names.lookup y = some .local) (h1 : LF X e tf) (h2 : LF X e2 tf2)
    (hw : swappedStores [.Tuple [.Name x px, .Name y py] kt pt] (.Tuple [e, e2] k2 pt2) X.env = pure (some [x, y]))
    (hs : swapsWithSole [.Tuple [.Name x px, .Name y py] kt pt] (.Tuple [e, e2] k2 pt2) pos.line X.env = pure false := by rfl)
    (hs1 : starEach [e, e2] X.env = (false, eval e X.env) :: starEach [e2] X.env := by rfl) (hs2 : starEach [e2] X.env = (false, eval e2 X.env) :: starEach [] X.env := by rfl) :
    LS X (.Assign [.Tuple [.Name x px, .Name y py] kt pt] (.Tuple [e, e2] k2 pt2) pos) (sPar i j tf tf2) :=
  ⟨psImp (ps_par hc hN hi hj hij hx hy (pa_cons h1.p (pa_cons h2.p pa_nil hs2) hs1) hw hs) fun D σ H ⟨G, ρ, F, D', R, q, k⟩ =>
    ⟨G, ρ, F, _, R, q, fun l ρ1 v H1 F1 h1 R1 s1 r1 => by
      obtain ⟨G', Rp, back⟩ := r1.keep R1
      exact ⟨G', ρ1, F1, _, Rp, h1, fun m ρ2 w H2 F2 h2 R2 s2 r2 => by
        obtain ⟨R3, r3, both⟩ := back R2 s2
        obtain ⟨r4, ne⟩ := both r2
        refine ⟨v, w, rfl, k.nx _ _ _ _ h2 ?_ (s1.trans s2)⟩
        exact r3.store2 R3 r4 ne i j⟩⟩⟩
end
end DL
namespace DL
open PySem L2 PyProof.Rows
section
variable {G : Gm} {X : Cx} {K : PySem.W.Frag} {F F' H H' : Hp} {ρ : En} {σ : L2.St} {e e2 e3 : Expr} {es : List Expr} {pos : Pos} {oa ob oc : Op1} {ta tb : TD} {c : TTd} {st : Stmt} {sts sts2 : List Stmt} {t u : TSt} {tf tf2 : TF} {v : V} {x : PD}
inductive Pt where
  | nm (i : Nat)
  | tp (is : List Nat)
  /-- a list's items -/
  | ul (is : List Nat)
def gNames : List Nat → TGs
  | [] => gNil
  | i :: r => gCons (gName i) (gNames r)
def Pt.tg (K : PySem.W.Frag) : Pt → TG
  | .nm i => gName i
  | .tp is => gTup K is.length (gNames is)
  | .ul is => gUnl K is.length (gNames is)
def Pt.slots : Pt → List Nat
  | .nm i => [i]
  | .tp is => is
  | .ul is => is
def setAll : En → List Nat → List PD → En
  | ρ, i :: is, x :: xs => setAll (ρ.set i (some (.d x))) is xs
  | ρ, _, _ => ρ
def Pt.go : Pt → PD → En → (En → Prop) → Prop
  | .nm i, x, ρ, Q => Q (ρ.set i (some (.d x)))
  | .tp is, .tuple xs, ρ, Q => xs.length = is.length ∧ Q (setAll ρ is xs)
  | .tp _, _, _, _ => False
  | .ul is, .list xs, ρ, Q => xs.length = is.length ∧ Q (setAll ρ is xs)
  | .ul _, _, _, _ => False
def Only (is : List Nat) (σ σ' : L2.St) : Prop := σ'.length = σ.length ∧ ∀ j, j ∉ is → σ'[j]? = σ[j]?
theorem only_set {i : Nat} {is : List Nat} {w : Option V} (h : i ∈ is) : Only is σ (σ.set i w) := ⟨List.length_set, fun j hj => List.getElem?_set_ne fun z => hj (by rw [← z]; exact h)⟩
theorem names_go [Pn] {is js : List Nat} (hs : ∀ i ∈ js, i ∈ is) : ∀ {ρ : En} {σ : L2.St} {vs : List V} {xs : List PD} {Q : L2.St → Hp → Prop}, Rel K G ρ F σ H → DfA K F vs xs → xs.length = js.length →
    (∀ σ2, Rel K G (setAll ρ js xs) F σ2 H → Only is σ σ2 → Q σ2 H) → gNames js vs σ H Q := by
  induction js with
  | nil =>
    intro ρ σ vs xs Q R d hl q
    have e1 : xs = [] := List.length_eq_zero_iff.mp hl
    subst e1
    cases d
    exact ⟨rfl, q σ R ⟨rfl, fun _ _ => rfl⟩⟩
  | cons j js ih =>
    intro ρ σ vs xs Q R d hl q
    cases d with
    | nil => simp at hl
    | cons a b =>
      rename_i v vs x xs
      refine ⟨v, vs, rfl, ?_⟩
      show gNames js vs (σ.set j (some v)) H Q
      refine ih (fun i hi => hs i (List.mem_cons_of_mem _ hi)) (R.store_d j a) b (by simpa using hl) fun σ2 R2 o => q σ2 R2 ?_
      refine ⟨by rw [o.1, List.length_set], fun k hk => ?_⟩
      rw [o.2 k hk]
      exact List.getElem?_set_ne fun z => hk (by rw [← z]; exact hs j List.mem_cons_self)
theorem pt_go [Pn] (pt : Pt) (R : Rel K G ρ F σ H) (d : Df K F v x) {Q' : En → Prop} (h : pt.go x ρ Q') {Q : L2.St → Hp → Prop} (q : ∀ ρ2 σ2, Q' ρ2 → Rel K G ρ2 F σ2 H → Only pt.slots σ σ2 → Q σ2 H) : pt.tg K v σ H Q := by
  cases pt with
  | nm i => exact q _ _ h (R.store_d i d) (only_set (List.mem_singleton.mpr rfl))
  | tp is =>
    cases d <;> first | exact False.elim h | skip
    rename_i a vs xs hq ds
    obtain ⟨h1, h2⟩ := h
    exact ⟨a, vs, rfl, seqT R.fh hq, by rw [ds.length]; exact h1, names_go (fun i hi => hi) R ds h1 fun σ2 R2 o => q _ σ2 h2 R2 o⟩
  | ul is =>
    cases d <;> first | exact False.elim h | skip
    rename_i a vs xs hq ds
    obtain ⟨h1, h2⟩ := h
    exact ⟨a, vs, rfl, rdSq (rdM R.fh hq), by rw [ds.length]; exact h1, names_go (fun i hi => hi) R ds h1 fun σ2 R2 o => q _ σ2 h2 R2 o⟩
def sUnp (pt : Pt) (t : TD) : TSt := fun D ρ => t ρ fun x ρ1 => pt.go x ρ1 D.nx
theorem LS.unp [Pn] {tg : Expr} {pt : Pt} (hg : PG X tg (pt.tg X.K)) (h : LD X e ta) (hs : swapsWithSole [tg] e pos.line X.env = pure false := by rfl) (hw : swappedStores [tg] e X.env = pure none := by rfl)
    (h1 : (assignEach [tg] X.env).map (·.2) = [assign tg X.env] := by rfl) : LS X (.Assign [tg] e pos) (sUnp pt ta) := ⟨psImp (ps_asg h.p hg hs hw h1) fun D σ H ⟨G, ρ, F, D', R, q, k⟩ =>
  ⟨G, ρ, F, _, R, q, fun x ρ1 v H1 F1 h1 R1 s1 d => pt_go pt R1 d h1 fun ρ2 σ2 q2 R2 _ => k.nx _ _ _ _ q2 R2 s1⟩⟩
def sSetL (s : Nat) (oi : Op1) (t : TD) : TSt := fun D ρ => t ρ fun x ρ1 => match ρ1[s]? with
  | some (some _) => oi.run ρ1 fun a ρ2 => res1 ρ2 a fun y => (match y, ρ2[s]? with
    | .int i, some (some (.ls p xs)) => ∃ j, ixN xs.length i = some j ∧ D.nx (ρ2.set s (some (.ls p (xs.set j x))))
    | _, _ => False)
  | _ => False
theorem Rel.own_ls [Pn] (R : Rel K G ρ F σ H) {s : Nat} {p : Option Nat} {xs : List PD} (er : ρ[s]? = some (some (.ls p xs))) : ∃ a vs, σ[s]? = some (some (.ref a)) ∧ H a = some (.lst vs) ∧ DfA K F vs xs := by
  obtain ⟨a, es, nf, ow, o, eo, ok⟩ := R.at_ er rfl
  cases o <;> first | exact False.elim ok | exact ⟨a, _, es, eo, ok⟩
theorem LS.setL [Pn] {s : Nat} {o i : Expr} {p2 : Pos} (h : LD X e ta) (hg : PG X (.Subscript o i p2) (gSub (tVar s) (liftO X.K oa) rSetL))
    (hs : swapsWithSole [.Subscript o i p2] e pos.line X.env = pure false := by rfl) (hw : swappedStores [.Subscript o i p2] e X.env = pure none := by rfl)
    (h1 : (assignEach [.Subscript o i p2] X.env).map (·.2) = [assign (.Subscript o i p2) X.env] := by rfl) : LS X (.Assign [.Subscript o i p2] e pos) (sSetL s oa ta) := ⟨psImp (ps_asg h.p hg hs hw h1) fun D σ H ⟨G, ρ, F, D', R, q, k⟩ =>
  ⟨G, ρ, F, _, R, q, fun x ρ1 v H1 F1 h1 R1 s1 d => by
    split at h1
    · rename_i l er
      obtain ⟨w, ew⟩ := (R1.sl s _ er).some
      refine ⟨w, ew, G, ρ1, F1, _, R1, h1, fun a ρ2 vi H2 F2 h2 R2 s2 av => ?_⟩
      obtain ⟨y, h3, dy⟩ := res1_dr R2 av h2
      split at h3
      · rename_i i p xs er2
        obtain ⟨j, hj, h4⟩ := h3
        obtain ⟨b, vs, es, eb, dv⟩ := R2.own_ls er2
        rw [es] at ew
        have ew : w = .ref b := by simpa using ew.symm
        subst ew
        rw [dy.int]
        refine ⟨b, vs, i, j, rfl, rfl, eb, by rw [dv.length]; exact hj, k.nx _ _ _ _ h4 ?_ (s1.trans s2)⟩
        exact R2.write er2 rfl es (m := .ls p (xs.set j x)) (dv.set j (d.mono s2)) rfl
      · exact False.elim h3
    · exact False.elim h1⟩⟩
def sApp (s : Nat) (t : TD) : TSt := fun D ρ => match ρ[s]? with
  | some (some (.ls _ _)) => t ρ fun x ρ1 => (match ρ1[s]? with
    | some (some (.ls p xs)) => xs.length < sizeLine ∧ D.nx (ρ1.set s (some (.ls p (xs ++ [x]))))
    | _ => False)
  | _ => False
theorem LS.app [Pn] {s : Nat} (h : PE X e (tBM X.K "list" rAppend (tVar s) (tCons (liftD X.K ta) tNil))) (hs : swapsWith e none pos.line X.env = pure false := by rfl) : LS X (.Expr e pos) (sApp s ta) := ⟨psImp (ps_expr h hs) fun D σ H ⟨G, ρ, F, D', R, q, k⟩ => by
  unfold sApp at q
  split at q
  · rename_i p0 ys er
    obtain ⟨a, us, es, ea, _⟩ := R.own_ls er
    refine ⟨_, es, .inl ⟨rfl, us, SqL.of ea⟩, G, ρ, F, _, R, q, fun x ρ1 v H1 F1 h1 R1 s1 d => ?_⟩
    split at h1
    · rename_i p xs er1
      obtain ⟨b, vs, es1, eb, dv⟩ := R1.own_ls er1
      rw [es] at es1
      have eab : a = b := by simpa using es1
      subst eab
      refine ⟨a, vs, v, rfl, rfl, eb, by rw [dv.length]; exact h1.1, k.nx _ _ _ _ h1.2 ?_ s1⟩
      exact R1.write er1 rfl es (m := .ls p (xs ++ [x])) (dv.snoc d) rfl
    · exact False.elim h1
  · exact False.elim q⟩
def rExtD : V → List V → Hp → VK → Prop := fun x vs H Q => ∃ l b xs zs, x = .ref l ∧ vs = [.ref b] ∧ H l = some (.lst xs) ∧ Rd H b (.lst zs) ∧ xs.length + zs.length ≤ sizeLine ∧ Q .non (upd H l (.lst (xs ++ zs)))
theorem mt_extD : MtR X "list.extend" rExtD := by
  intro pins s σ H x vs v us Q I rx rv ⟨l, b, xs, zs, ex, ev, hH, hB, hz, q⟩
  subst ex ev
  cases rx
  obtain ⟨u, rfl, ru⟩ := rv.one
  cases ru
  obtain ⟨z, is1, n, r, hl, e⟩ := I.lstM hH
  obtain ⟨z2, is2, n2, r2, hl2, e2⟩ := rd_list I hB
  have hsz : is1.toArray.size + is2.toArray.size ≤ sizeLine := by simp only [List.size_toArray]; omega
  have hlong : ¬ (!is1.toArray.isEmpty && Builtin.List.listTooLong (is1.toArray.size + is2.toArray.size)) = true := by
    simp only [notLongL hsz, Bool.and_false]; exact Bool.false_ne_true
  refine call_meets F.slot_list_extend ⟨_, e, rfl⟩ F.entry_list_extend (F.args_list_extend_2 _ _) (AutoSeq1.list_extend_list_list_0 l is1.toArray n b is2.toArray n2 hlong
    (by simp only [List.size_toArray]; omega) (by omega)) ⟨e, e2, .non, _, I.lset (its' := is1 ++ is2) hH e (by simp) (r.append r2) ?_, rfl, q⟩
  simp only [List.length_append]; exact hz
def sExt (s : Nat) (o : Op1) : TSt := fun D ρ => match ρ[s]? with
  | some (some (.ls _ _)) => o.run ρ fun a ρ1 => res1 ρ1 a fun y => (match y, ρ1[s]? with
    | .list ys, some (some (.ls p xs)) => xs.length + ys.length ≤ sizeLine ∧ D.nx (ρ1.set s (some (.ls p (xs ++ ys))))
    | _, _ => False)
  | _ => False
theorem LS.ext [Pn] {s : Nat} (h : PE X e (tBM X.K "list" rExtD (tVar s) (tCons (liftO X.K oa) tNil))) (hs : swapsWith e none pos.line X.env = pure false := by rfl) : LS X (.Expr e pos) (sExt s oa) := ⟨psImp (ps_expr h hs) fun D σ H ⟨G, ρ, F, D', R, q, k⟩ => by
  unfold sExt at q
  split at q
  · rename_i p0 ys er
    obtain ⟨a, us, es, ea, _⟩ := R.own_ls er
    refine ⟨_, es, .inl ⟨rfl, us, SqL.of ea⟩, G, ρ, F, _, R, q, fun av ρ1 v H1 F1 h1 R1 s1 d => ?_⟩
    obtain ⟨y, h2, dy⟩ := res1_dr R1 d h1
    split at h2
    · rename_i zs p xs er1
      obtain ⟨b, vs, es1, eb, dv⟩ := R1.own_ls er1
      rw [es] at es1
      have eab : a = b := by simpa using es1
      subst eab
      obtain ⟨c, ws, rfl, ec, dw⟩ := dy.lst R1.fh
      refine ⟨a, c, vs, ws, rfl, rfl, eb, ec, by rw [dv.length, dw.length]; exact h2.1, k.nx _ _ _ _ h2.2 ?_ s1⟩
      exact R1.write er1 rfl es (m := .ls p (xs ++ zs)) (dv.append dw) rfl
    · exact False.elim h2
  · exact False.elim q⟩
def dPop (s : Nat) : TD := fun ρ Q => match ρ[s]? with
  | some (some (.ls p xs)) => ∃ y, xs[xs.length - 1]? = some y ∧ Q y (ρ.set s (some (.ls p xs.dropLast)))
  | _ => False
theorem DfA.dropLast {vs : List V} {ds : List PD} (h : DfA K F vs ds) : DfA K F vs.dropLast ds.dropLast := by
  rw [List.dropLast_eq_take, List.dropLast_eq_take, h.length]; exact h.take _
theorem LD.pop [Pn] {s : Nat} (h : PE X e (tBM0 X.K "list" rPop (tVar s))) : LD X e (dPop s) := ⟨peImp h fun σ H Q ⟨G, ρ, F, Q', R, q, c⟩ => by
  unfold dPop at q
  split at q
  · rename_i p xs er
    obtain ⟨a, vs, es, ea, dv⟩ := R.own_ls er
    obtain ⟨y, hy, q⟩ := q
    obtain ⟨w, hw, dw⟩ := dv.get hy
    refine ⟨_, es, .inl ⟨rfl, vs, SqL.of ea⟩, a, vs, w, rfl, rfl, ea, by rw [dv.length]; exact hw, c _ _ _ _ _ q ?_ (Same.refl _) dw⟩
    exact R.write er rfl es (m := .ls p xs.dropLast) dv.dropLast rfl
  · exact False.elim q⟩
end
end DL
namespace DL
open PySem L2 PyProof.Rows
theorem piImp {X : Cx} {tg e : Expr} {t t' : TI} (h : PI X tg e t) (w : ∀ σ H R, t' σ H R → t σ H R) : PI X tg e t' := ⟨fun pins s σ H R I q => h.run pins s σ H R I (w _ _ _ q)⟩
section
variable {G : Gm} {X : Cx} {K : PySem.W.Frag} {F F' H H' : Hp} {ρ : En} {σ : L2.St} {e e2 e3 tg : Expr} {es : List Expr} {pos : Pos} {oa ob oc : Op1} {ta tb : TD} {c : TTd} {st : Stmt} {sts sts2 : List Stmt} {t u : TSt} {tf tf2 : TF} {v : V} {x : PD}
def sWhile (c : TTd) (b : TSt) : TSt := fun D ρ => ∃ (I : En → Prop) (μ : En → Nat), I ρ ∧ ∀ ρ, I ρ → c ρ fun k ρ1 => brB k (b { D with nx := fun ρ' => I ρ' ∧ μ ρ' < μ ρ, ct := fun ρ' => I ρ' ∧ μ ρ' < μ ρ, bk := D.nx } ρ1) (D.nx ρ1)
theorem LS.while [Pn] (hp : PassesOwn (model X.prog X.w) X.A X.env X.xe) (h : LT X e c) (hb : LSs X sts t) : LS X (.While e sts [] pos) (sWhile c t) := ⟨psImp (ps_while hp h.p hb.p) fun D σ H ⟨G, ρ, F, D', R, ⟨I, μ, i0, turn⟩, k⟩ => by
  refine ⟨fun m σ H => ∃ ρ F', Rel X.K G ρ F' σ H ∧ Same F F' ∧ I ρ ∧ m = μ ρ, ⟨μ ρ, ρ, F, R, Same.refl _, i0, rfl⟩, ?_⟩
  rintro m σ1 H1 ⟨ρ1, F1, R1, s1, i1, rfl⟩
  refine ⟨G, ρ1, F1, _, R1, turn ρ1 i1, fun b ρ2 H2 F2 h2 R2 s2 => ?_⟩
  cases b with
  | false => exact iteF (k.nx _ _ _ _ (h2.2 rfl) R2 (s1.trans s2))
  | true =>
    refine iteT ⟨fun σ' H' => ∃ ρ' F', Rel X.K G ρ' F' σ' H' ∧ Same F F' ∧ I ρ' ∧ μ ρ' < μ ρ1, fun σ' H' ⟨ρ', F', R', s', i', l⟩ => ⟨μ ρ', l, ρ', F', R', s', i', rfl⟩, ?_⟩
    have s12 := s1.trans s2
    exact ⟨G, ρ2, F2, _, R2, h2.1 rfl, ⟨fun ρ3 σ3 H3 F3 h R s => ⟨ρ3, F3, R, s12.trans s, h.1, h.2⟩, fun l ρ3 v σ3 H3 F3 h R s r => k.rt _ _ _ _ _ _ h R (s12.trans s) r,
      fun ρ3 σ3 H3 F3 h R s => k.nx _ _ _ _ h R (s12.trans s), fun ρ3 σ3 H3 F3 h R s => ⟨ρ3, F3, R, s12.trans s, h.1, h.2⟩⟩⟩⟩
inductive Wk where
  | items (xs : List PD)
  | own (s : Nat) (p : Option Nat) (xs : List PD)
  /-- the own list at b under a name in the own instance of a slot, which stays -/
  | nst (s : Nat) (nm : Str) (b : Addr) (xs : List PD)
def Wk.list : Wk → List PD
  | .items xs => xs
  | .own _ _ xs => xs
  | .nst _ _ _ xs => xs
def Wk.keeps (ρ : En) : Wk → Prop
  | .items _ => True
  | .own s p xs => ρ[s]? = some (some (.ls p xs))
  | .nst s nm b xs => ∃ p C fs ns, ρ[s]? = some (some (.nb p C fs ns)) ∧ getN nm ns = some (b, xs)
def Wk.keepS (σ σ1 : L2.St) : Wk → Prop
  | .items _ => True
  | .own s _ _ => σ[s]? = σ1[s]?
  | .nst _ _ _ _ => True
abbrev TId := En → (Wk → En → Prop) → Prop
def WkOk [Pn] (K : PySem.W.Frag) (J : It) (w : Wk) (F1 : Hp) (σ1 : L2.St) : Prop := ∀ (G : Gm) (i : Nat) (ρ : En) (F : Hp) (σ : L2.St) (H : Hp), Rel K G ρ F σ H → Same F1 F → w.keeps ρ → w.keepS σ σ1 →
  (w.list.length ≤ i → J.stop i H) ∧ (i < w.list.length → J.go i H ∧ ∀ x H', J.yld i H x H' → ∃ F' d, Grow F H F' H' ∧ w.list[i]? = some d ∧ Df K F' x d)
def liftI [Pn] (K : PySem.W.Frag) (t : TId) : TI := fun σ H R => ∃ G ρ F Q', Rel K G ρ F σ H ∧ t ρ Q' ∧ ∀ w ρ1 H1 F1 J, Q' w ρ1 → Rel K G ρ1 F1 σ H1 → Same F F1 → WkOk K J w F1 σ → R J H1
structure LI [Pn] (X : Cx) (tg e : Expr) (t : TId) : Prop where
  p : PI X tg e (liftI X.K t)
def iSeqH (K : PySem.W.Frag) (tl : TE) : TI := fun σ H R => tl σ H fun x H1 => (∃ a xs, x = .ref a ∧ SqL K H1 a xs ∧ R (Itl K a) H1) ∨ (∃ a xs, x = .ref a ∧ SqT K H1 a xs ∧ R (Itt K a) H1)
theorem pi_seq {tl : TE} (hl : PE X e tl) : PI X tg e (iSeqH X.K tl) := by
  refine ⟨fun pins s σ H R I h => thn (hl.run pins s σ H _ I h) fun u s1 ⟨x, H1, I1, r1, q1⟩ => ?_⟩
  have fp : ∀ b ∈ [s1.heap.objs.size], FpOk X pins H1 b := fun b hb => by rw [List.mem_singleton.mp hb]; exact I1.fpOk (Nat.le_refl _) (I1.hok.fresh (Nat.le_refl _))
  rcases q1 with ⟨a, xs, ex, hq, q⟩ | ⟨a, xs, ex, hq, q⟩ <;> subst ex <;> cases r1
  · obtain ⟨its, _, pl, _⟩ := I1.list hq
    exact wpAny_pyIter_list pl.isList ⟨_, _, _, _, H1, rfl, I1.kept (t' := s1.toks) (fun b o w => Heap.get?_push_of_some _ w), turn_list a _, ⟨_, Heap.get?_push_size _ rfl, rfl, rfl⟩, fp, q⟩
  · obtain ⟨its, _, pl, _⟩ := I1.tuple hq
    exact wpAny_pyIter_tuple (show s1.heap.IsTuple a its.toArray from pl) ⟨_, _, _, _, H1, rfl, I1.kept (t' := s1.toks) (fun b o w => Heap.get?_push_of_some _ w), turn_tuple a _, ⟨_, Heap.get?_push_size _ rfl, rfl, rfl⟩, fp, q⟩
def iSeq (t : TD) : TId := fun ρ Q => t ρ fun x ρ1 => match x with
  | .list xs => Q (.items xs) ρ1
  | .tuple xs => Q (.items xs) ρ1
  | _ => False
theorem wk_list [Pn] {a : Addr} {vs : List V} {xs : List PD} {F1 : Hp} {σ1 : L2.St} (hq : Rd F1 a (.lst vs)) (ds : DfA K F1 vs xs) : WkOk K (Itl K a) (.items xs) F1 σ1 := by
  intro G i ρ F σ H R s _ _
  have q : SqL K H a vs := .inl (rdM R.fh (rdM s hq))
  have hl : vs.length = xs.length := ds.length
  refine ⟨fun h => ⟨vs, q, by rw [hl]; exact h⟩, fun h => ?_⟩
  obtain ⟨d, hd⟩ : ∃ d, xs[i]? = some d := ⟨xs[i]'h, List.getElem?_eq_getElem h⟩
  obtain ⟨v, hv, dv⟩ := ds.get hd
  refine ⟨⟨vs, v, q, hv⟩, fun x H' y => ?_⟩
  obtain ⟨rfl, y⟩ := y
  have := y vs q
  rw [hv] at this
  cases this
  exact ⟨F, d, Grow.refl R.fh, hd, dv.mono s⟩
theorem wk_tup [Pn] {a : Addr} {vs : List V} {xs : List PD} {F1 : Hp} {σ1 : L2.St} (hq : SqT K F1 a vs) (ds : DfA K F1 vs xs) : WkOk K (Itt K a) (.items xs) F1 σ1 := by
  intro G i ρ F σ H R s _ _
  have q : SqT K H a vs := seqT R.fh (seqT s hq)
  have hl : vs.length = xs.length := ds.length
  refine ⟨fun h => ⟨vs, q, by rw [hl]; exact h⟩, fun h => ?_⟩
  obtain ⟨d, hd⟩ : ∃ d, xs[i]? = some d := ⟨xs[i]'h, List.getElem?_eq_getElem h⟩
  obtain ⟨v, hv, dv⟩ := ds.get hd
  refine ⟨⟨vs, v, q, hv⟩, fun x H' y => ?_⟩
  obtain ⟨rfl, y⟩ := y
  have := y vs q
  rw [hv] at this
  cases this
  exact ⟨F, d, Grow.refl R.fh, hd, dv.mono s⟩
theorem LI.seq [Pn] (h : LD X e ta) : LI X tg e (iSeq ta) := ⟨piImp (pi_seq h.p) fun σ H R ⟨G, ρ, F, Q', Rl, q, c⟩ => ⟨G, ρ, F, _, Rl, q, fun x ρ1 v H1 F1 h1 R1 s1 d => by
  split at h1
  · cases d with
    | lst hq ds => exact .inl ⟨_, _, rfl, rdSq (rdM R1.fh hq), c _ _ _ _ _ h1 R1 s1 (wk_list hq ds)⟩
  · cases d with
    | tup hq ds => exact .inr ⟨_, _, rfl, seqT R1.fh hq, c _ _ _ _ _ h1 R1 s1 (wk_tup hq ds)⟩
  · exact False.elim h1⟩⟩
def iOwn (s : Nat) : TId := fun ρ Q => match ρ[s]? with
  | some (some (.ls p xs)) => Q (.own s p xs) ρ
  | some (some (.d (.list xs))) => Q (.items xs) ρ
  | some (some (.d (.tuple xs))) => Q (.items xs) ρ
  | _ => False
theorem wk_own [Pn] {a : Addr} {s : Nat} {p : Option Nat} {xs : List PD} {F1 : Hp} {σ1 : L2.St} (es : σ1[s]? = some (some (.ref a))) : WkOk K (Itl K a) (.own s p xs) F1 σ1 := by
  intro G i ρ F σ H R _ hk hs
  obtain ⟨b, vs, eb, hb, ds⟩ := R.own_ls (show ρ[s]? = some (some (.ls p xs)) from hk)
  have hs : σ[s]? = σ1[s]? := hs
  rw [hs, es] at eb
  have eab : a = b := by simpa using eb
  subst eab
  have q : SqL K H a vs := SqL.of hb
  have hl : vs.length = xs.length := ds.length
  refine ⟨fun h => ⟨vs, q, by rw [hl]; exact h⟩, fun h => ?_⟩
  have h : i < xs.length := h
  obtain ⟨d, hd⟩ : ∃ d, xs[i]? = some d := ⟨xs[i]'h, List.getElem?_eq_getElem h⟩
  obtain ⟨v, hv, dv⟩ := ds.get hd
  refine ⟨⟨vs, v, q, hv⟩, fun x H' y => ?_⟩
  obtain ⟨rfl, y⟩ := y
  have := y vs q
  rw [hv] at this
  cases this
  exact ⟨F, d, Grow.refl R.fh, hd, dv⟩
theorem LI.own [Pn] (s : Nat) (h : PE X e (tVar s)) : LI X tg e (iOwn s) := ⟨piImp (pi_seq h) fun σ H R ⟨G, ρ, F, Q', Rl, q, c⟩ => by
  unfold iOwn at q
  split at q
  · rename_i p xs er
    obtain ⟨a, vs, es, ha, ds⟩ := Rl.own_ls er
    exact ⟨_, es, .inl ⟨a, vs, rfl, SqL.of ha, c _ _ _ _ _ q Rl (Same.refl _) (wk_own es)⟩⟩
  · rename_i xs er
    obtain ⟨v, es, d⟩ := Rl.sl s _ er
    cases d with
    | lst hq ds => exact ⟨_, es, .inl ⟨_, _, rfl, rdSq (rdM Rl.fh hq), c _ _ _ _ _ q Rl (Same.refl _) (wk_list hq ds)⟩⟩
  · rename_i xs er
    obtain ⟨v, es, d⟩ := Rl.sl s _ er
    cases d with
    | tup hq ds => exact ⟨_, es, .inr ⟨_, _, rfl, seqT Rl.fh hq, c _ _ _ _ _ q Rl (Same.refl _) (wk_tup hq ds)⟩⟩
  · exact False.elim q⟩
def rngD (lo : Int) (n : Nat) : List PD := (List.range n).map fun i => .int (lo + (i : Nat))
theorem wk_range [Pn] {lo : Int} {n : Nat} {F1 : Hp} {σ1 : L2.St} : WkOk K (Itr lo n) (.items (rngD lo n)) F1 σ1 := by
  intro G i ρ F σ H R s _ _
  have hl : (rngD lo n).length = n := by unfold rngD; rw [List.length_map, List.length_range]
  refine ⟨fun h => by show n ≤ i; have h : (rngD lo n).length ≤ i := h; omega, fun h => ?_⟩
  have h : i < (rngD lo n).length := h
  rw [hl] at h
  refine ⟨h, fun x H' y => ?_⟩
  obtain ⟨rfl, rfl⟩ := y
  refine ⟨F, .int (lo + (i : Nat)), Grow.refl R.fh, ?_, .int _⟩
  show (rngD lo n)[i]? = _
  unfold rngD
  rw [List.getElem?_map, List.getElem?_range h]
  rfl
def iRg (t : TAd) : TId := fun ρ Q => t ρ fun as ρ1 => resA ρ1 as fun xs => match xs with
  | [.int j] => (-(2 ^ 62) ≤ j ∧ j < 2 ^ 62) ∧ Q (.items (rngD 0 j.toNat)) ρ1
  | [.int i, .int j] => (-(2 ^ 62) ≤ i ∧ i < 2 ^ 62 ∧ -(2 ^ 62) ≤ j ∧ j < 2 ^ 62) ∧ Q (.items (rngD i (j - i).toNat)) ρ1
  | _ => False
variable {p : Pos} {tt : TAd}
theorem LI.range1 [Pn] (hg : Gl X "range") (hm : X.mg "range" = none) (ha : LA X [e] tt) (hs : starEach [e] X.env = [(false, eval e X.env)] := by rfl) : LI X tg (.Call (.Name "range" p) [e] [] pos) (iRg tt) :=
  ⟨piImp (pi_range1 hg hm ha.p hs) fun σ H R ⟨G, ρ, F, Q', Rl, q, c⟩ => ⟨G, ρ, F, _, Rl, q, fun as ρ1 vs H1 F1 h1 hl R1 s1 av => by
    obtain ⟨xs, h2, d⟩ := resA_dr R1 av h1
    split at h2
    · obtain ⟨w, rfl, d1⟩ := d.one
      rw [d1.int]
      exact ⟨_, rfl, h2.1.1, h2.1.2, c _ _ _ _ _ h2.2 R1 s1 wk_range⟩
    · have := av.length
      obtain ⟨w1, w2, rfl, _, _⟩ := d.two
      rw [hl] at this; simp at this
    · exact False.elim h2⟩⟩
theorem wk_pair [Pn] {J : It} {f : Nat → Option V} {g : Nat → Option V} {F1 : Hp} {σ1 : L2.St} {a b : List PD} {n : Nat} {xs : List PD} (hl : xs.length = n)
    (hst : ∀ i F H, Same F1 F → Same F H → n ≤ i → J.stop i H) (hgo : ∀ i F H, Same F1 F → Same F H → i < n → J.go i H)
    (hy : ∀ i F H x H', Same F1 F → Same F H → i < n → J.yld i H x H' → ∃ T u w d1 d2, x = .ref T ∧ H T = none ∧ H' = upd H T (.tup [u, w]) ∧ Df K F1 u d1 ∧ Df K F1 w d2 ∧ xs[i]? = some (.tuple [d1, d2])) : WkOk K J (.items xs) F1 σ1 := by
  intro G i ρ F σ H R s _ _
  refine ⟨fun h => hst i F H s R.fh (by have h : xs.length ≤ i := h; omega), fun h => ?_⟩
  have h : i < xs.length := h
  rw [hl] at h
  refine ⟨hgo i F H s R.fh h, fun x H' y => ?_⟩
  obtain ⟨T, u, w, d1, d2, rfl, hT, rfl, q1, q2, e⟩ := hy i F H x H' s R.fh h y
  have g := Grow.frozen R.fh hT (.tup [u, w])
  exact ⟨_, _, g, e, .tup (SqT.of upd_same) (.cons ((q1.mono s).mono g.ff) (.cons ((q2.mono s).mono g.ff) .nil))⟩
def zipD (xs ys : List PD) : List PD := List.zipWith (fun a b => .tuple [a, b]) xs ys
def iZp (t : TAd) : TId := fun ρ Q => t ρ fun as ρ1 => resFA ρ1 as fun xs => match xs with
  | [.list xs, .list ys] => Q (.items (zipD xs ys)) ρ1
  | [.tuple xs, .tuple ys] => Q (.items (zipD xs ys)) ρ1
  | _ => False
theorem zipD_get {xs ys : List PD} {i : Nat} {d d2 : PD} (h : xs[i]? = some d) (h2 : ys[i]? = some d2) : (zipD xs ys)[i]? = some (.tuple [d, d2]) := by
  unfold zipD
  rw [List.getElem?_zipWith, h, h2]
theorem LI.zip [Pn] {elts : List Expr} {kk : Nat} {tpos : Pos} (hg : Gl X "zip") (hm : X.mg "zip" = none) (h : LA X [e, e2] tt)
    (hs : starEach [e, e2] X.env = (false, eval e X.env) :: starEach [e2] X.env := by rfl) (hpl : (backTo pos (starEach [e2] X.env)).any (·.1) = false := by rfl) :
    LI X (.Tuple elts kk tpos) (.Call (.Name "zip" p) [e, e2] [] pos) (iZp tt) :=
  ⟨piImp (RZ.pi_zipA hg hm h.p hs hpl) fun σ H R ⟨G, ρ, F, Q', Rl, q, c⟩ => ⟨G, ρ, F, _, Rl, q, fun as ρ1 us H1 F1 h1 hln R1 s1 av => by
    obtain ⟨zs, h2, dz⟩ := resFA_df R1 av h1
    split at h2
    · rename_i xs ys
      cases dz with | cons d dz => cases dz with | cons d2 dz => cases dz; cases d with | lst hq ds => cases d2 with | lst hq2 ds2 =>
        rename_i a vs b ws
        have hl : vs.length = xs.length := ds.length
        have hl2 : ws.length = ys.length := ds2.length
        refine ⟨a, b, vs, ws, rfl, .inl ⟨rdSq (rdM R1.fh hq), rdSq (rdM R1.fh hq2), c _ _ _ _ _ h2 R1 s1 (wk_pair (f := fun _ => none) (g := fun _ => none) (a := []) (b := []) (n := min xs.length ys.length) (by unfold zipD; simp) ?_ ?_ ?_)⟩⟩
        · exact fun i F H s s2 hi => ⟨vs, ws, rdSq (rdM s2 (rdM s hq)), rdSq (rdM s2 (rdM s hq2)), by omega⟩
        · intro i F H s s2 hi
          exact ⟨vs, ws, vs[i]'(by omega), ws[i]'(by omega), rdSq (rdM s2 (rdM s hq)), rdSq (rdM s2 (rdM s hq2)), List.getElem?_eq_getElem _, List.getElem?_eq_getElem _⟩
        · intro i F H x H' s s2 hi ⟨T, u, w, e1, hT, e2, hu, hw⟩
          have hu := hu vs (rdSq (rdM s2 (rdM s hq)))
          have hw := hw ws (rdSq (rdM s2 (rdM s hq2)))
          obtain ⟨d, hd, du⟩ := ds.get' hu
          obtain ⟨d', hd', dw⟩ := ds2.get' hw
          exact ⟨T, u, w, d, d', e1, hT, e2, du, dw, zipD_get hd hd'⟩
    · rename_i xs ys
      cases dz with | cons d dz => cases dz with | cons d2 dz => cases dz; cases d with | tup hq ds => cases d2 with | tup hq2 ds2 =>
        rename_i a vs b ws
        have hl : vs.length = xs.length := ds.length
        have hl2 : ws.length = ys.length := ds2.length
        refine ⟨a, b, vs, ws, rfl, .inr ⟨seqT R1.fh hq, seqT R1.fh hq2, c _ _ _ _ _ h2 R1 s1 (wk_pair (f := fun _ => none) (g := fun _ => none) (a := []) (b := []) (n := min xs.length ys.length) (by unfold zipD; simp) ?_ ?_ ?_)⟩⟩
        · exact fun i F H s s2 hi => ⟨vs, ws, seqT s2 (seqT s hq), seqT s2 (seqT s hq2), by omega⟩
        · intro i F H s s2 hi
          exact ⟨vs, ws, vs[i]'(by omega), ws[i]'(by omega), seqT s2 (seqT s hq), seqT s2 (seqT s hq2), List.getElem?_eq_getElem _, List.getElem?_eq_getElem _⟩
        · intro i F H x H' s s2 hi ⟨T, u, w, e1, hT, e2, hu, hw⟩
          have hu := hu vs (seqT s2 (seqT s hq))
          have hw := hw ws (seqT s2 (seqT s hq2))
          obtain ⟨d, hd, du⟩ := ds.get' hu
          obtain ⟨d', hd', dw⟩ := ds2.get' hw
          exact ⟨T, u, w, d, d', e1, hT, e2, du, dw, zipD_get hd hd'⟩
    · exact False.elim h2⟩⟩
def sFor (src : TId) (pt : Pt) (b : TSt) : TSt := fun D ρ => src ρ fun w ρ1 => ∃ xs, w = .items xs ∧ ∃ I : Nat → En → Prop, I 0 ρ1 ∧
  (∀ i x ρ2, xs[i]? = some x → I i ρ2 → pt.go x ρ2 fun ρ3 => b { D with nx := I (i + 1), ct := I (i + 1), bk := D.nx } ρ3) ∧ ∀ ρ2, I xs.length ρ2 → D.nx ρ2
theorem LS.for [Pn] {src : TId} {pt : Pt} (hp : PassesOwn (model X.prog X.w) X.A X.env X.xe) (hc : X.calm = true) (hi : LI X tg e src) (hg : PG X tg (pt.tg X.K)) (hb : LSs X sts t)
    (hs : ∀ x, foldedSetIterable e X.env x = pure x := by intro _; rfl) : LS X (.For tg e sts [] pos) (sFor src pt t) := ⟨psImp (ps_for hp hc hi.p hg hb.p hs) fun D σ H ⟨G, ρ, F, D', R, q, k⟩ => ⟨G, ρ, F, _, R, q, fun w ρ1 H1 F1 J h1 R1 s1 wk => by
  obtain ⟨xs, rfl, I, i0, turn, fin⟩ := h1
  refine ⟨fun i m σ H => m = xs.length - i ∧ i ≤ xs.length ∧ ∃ ρ2 F2, Rel X.K G ρ2 F2 σ H ∧ Same F1 F2 ∧ I i ρ2, ⟨xs.length, rfl, Nat.zero_le _, ρ1, F1, R1, Same.refl _, i0⟩, ?_⟩
  rintro i m σ2 H2 ⟨rfl, hi, ρ2, F2, R2, s2, i2⟩
  obtain ⟨wstop, wgo⟩ := wk G i ρ2 F2 σ2 H2 R2 s2 trivial trivial
  by_cases hlt : i < xs.length
  · obtain ⟨go, yld⟩ := wgo hlt
    refine .inr ⟨go, fun σ' H' => ∃ ρ' F', Rel X.K G ρ' F' σ' H' ∧ Same F1 F' ∧ I (i + 1) ρ', fun σ' H' ⟨ρ', F', R', s', i'⟩ => ⟨_, by omega, rfl, hlt, ρ', F', R', s', i'⟩, fun x H' y => ?_⟩
    obtain ⟨F', d, g, ed, dd⟩ := yld x H' y
    refine pt_go pt (R2.grow g) dd (turn i d ρ2 ed i2) fun ρ3 σ3 q3 R3 _ => ?_
    have s3 := s1.trans (s2.trans g.ff)
    exact ⟨G, ρ3, F', _, R3, q3, ⟨fun ρ4 σ4 H4 F4 h R s => ⟨ρ4, F4, R, (s2.trans g.ff).trans s, h⟩, fun l ρ4 v σ4 H4 F4 h R s r => k.rt _ _ _ _ _ _ h R (s3.trans s) r,
      fun ρ4 σ4 H4 F4 h R s => k.nx _ _ _ _ h R (s3.trans s), fun ρ4 σ4 H4 F4 h R s => ⟨ρ4, F4, R, (s2.trans g.ff).trans s, h⟩⟩⟩
  · have ei : i = xs.length := by omega
    subst ei
    exact .inl ⟨wstop (Nat.le_refl _), k.nx _ _ _ _ (fin ρ2 i2) R2 (s1.trans s2)⟩⟩⟩
end
end DL
namespace DL
open PySem L2 PyProof.Rows
section
variable {G : Gm} {X : Cx} {K : PySem.W.Frag} {F F' F1 F2 H H' H1 : Hp} {ρ ρ1 ρ2 : En} {σ : L2.St} {e e2 e3 tg elt iter : Expr} {es ifs : List Expr} {pos : Pos} {oa ob oc : Op1} {ta tb el : TD} {c : TTd} {st : Stmt} {sts sts2 : List Stmt} {t u : TSt} {tf tf2 : TF} {v : V} {x : PD}
def wipeE (ρ : En) : List Nat → En
  | [] => ρ
  | v :: vs => (wipeE ρ vs).set v none
def restE (ρ1 ρ2 : En) : List Nat → En
  | [] => ρ2
  | j :: js => (restE ρ1 ρ2 js).set j (ρ1.getD j none)
def lcFree (ρ : En) (vs : List Nat) : Bool := vs.all fun j => match ρ[j]? with
  | some (some l) => !l.own
  | _ => true
theorem wipe_ne {vs : List Nat} {i : Nat} (h : i ∉ vs) : (wipe σ vs)[i]? = σ[i]? := by
  induction vs with
  | nil => rfl
  | cons v vs ih =>
    show ((wipe σ vs).set v none)[i]? = σ[i]?
    rw [List.getElem?_set_ne (fun z => h (by rw [z]; exact List.mem_cons_self))]
    exact ih fun z => h (List.mem_cons_of_mem _ z)
theorem wipeE_length (vs : List Nat) : (wipeE ρ vs).length = ρ.length := by
  induction vs with
  | nil => rfl
  | cons v vs ih => show ((wipeE ρ vs).set v none).length = _; rw [List.length_set, ih]
theorem wipeE_get {vs : List Nat} {i : Nat} {l : Lc} (h : (wipeE ρ vs)[i]? = some (some l)) : i ∉ vs ∧ ρ[i]? = some (some l) := by
  induction vs with
  | nil => exact ⟨by simp, h⟩
  | cons v vs ih =>
    have h : ((wipeE ρ vs).set v none)[i]? = some (some l) := h
    rcases set_get h with ⟨_, _, z⟩ | ⟨hne, h⟩
    · cases z
    · obtain ⟨h1, h2⟩ := ih h
      exact ⟨by simp only [List.mem_cons, not_or]; exact ⟨hne, h1⟩, h2⟩
theorem restE_length (vs : List Nat) : (restE ρ1 ρ2 vs).length = ρ2.length := by
  induction vs with
  | nil => rfl
  | cons v vs ih => show ((restE ρ1 ρ2 vs).set v _).length = _; rw [List.length_set, ih]
theorem restE_get {vs : List Nat} {i : Nat} {l : Lc} (h : (restE ρ1 ρ2 vs)[i]? = some (some l)) : (i ∈ vs ∧ ρ1[i]? = some (some l)) ∨ (i ∉ vs ∧ ρ2[i]? = some (some l)) := by
  induction vs with
  | nil => exact .inr ⟨by simp, h⟩
  | cons v vs ih =>
    have h : ((restE ρ1 ρ2 vs).set v (ρ1.getD v none))[i]? = some (some l) := h
    rcases set_get h with ⟨rfl, _, z⟩ | ⟨hne, h⟩
    · refine .inl ⟨List.mem_cons_self, ?_⟩
      rw [List.getD_eq_getElem?_getD] at z
      cases q : ρ1[i]? with
      | none => rw [q] at z; simp at z
      | some w => rw [q] at z; simp at z; rw [← z]
    · rcases ih h with ⟨a, b⟩ | ⟨a, b⟩
      · exact .inl ⟨List.mem_cons_of_mem _ a, b⟩
      · exact .inr ⟨by simp only [List.mem_cons, not_or]; exact ⟨hne, a⟩, b⟩
theorem wipe_eq {σ' : L2.St} {vs : List Nat} (hl : σ'.length = σ.length) (h : ∀ j, j ∉ vs → σ'[j]? = σ[j]?) : wipe σ' vs = wipe σ vs := by
  have key : ∀ {τ : L2.St} {i : Nat}, i < τ.length → i ∈ vs → (wipe τ vs)[i]? = some none := by
    intro τ i hi hm
    clear h
    induction vs with
    | nil => simp at hm
    | cons v vs ih =>
      show ((wipe τ vs).set v none)[i]? = _
      by_cases hv : v = i
      · subst hv; rw [List.getElem?_set_self (by rw [wipe_length]; exact hi)]
      · rw [List.getElem?_set_ne hv]
        exact ih ((List.mem_cons.mp hm).resolve_left (Ne.symm hv))
  apply List.ext_getElem?
  intro i
  by_cases hm : i ∈ vs
  · by_cases hi : i < σ.length
    · rw [key (by rw [hl]; exact hi) hm, key hi hm]
    · rw [List.getElem?_eq_none (by rw [wipe_length, hl]; omega), List.getElem?_eq_none (by rw [wipe_length]; omega)]
  · rw [wipe_ne hm, wipe_ne hm, h i hm]
theorem wipe_only {σ' : L2.St} {is vs : List Nat} (hs : ∀ i ∈ is, i ∈ vs) (o : Only is (wipe σ vs) σ') : wipe σ' vs = wipe σ vs := by
  refine wipe_eq (by rw [o.1, wipe_length]) fun j hj => ?_
  rw [o.2 j fun z => hj (hs j z), wipe_ne hj]
theorem Rel.wipe [Pn] (R : Rel K G ρ F σ H) (vs : List Nat) {σ' : L2.St} (hl : σ'.length = σ.length) (h : ∀ j, j ∉ vs → σ'[j]? = σ[j]?) : Rel K G (wipeE ρ vs) F σ' H :=
  R.weak (by rw [wipeE_length, hl]; exact R.len) fun i l e => ⟨(wipeE_get e).2, h i (wipeE_get e).1⟩
theorem Rel.rest [Pn] (R1 : Rel K G ρ1 F1 σ H1) (vs : List Nat) (hf : lcFree ρ1 vs = true) (R2 : Rel K G (wipeE ρ2 vs) F2 (L2.wipe σ vs) H) (s : Same F1 F2) : Rel K G (restE ρ1 (wipeE ρ2 vs) vs) F2 σ H := by
  have nown : ∀ {i : Nat} {l : Lc}, i ∈ vs → ρ1[i]? = some (some l) → l.own = false := fun {i l} hi e => by
    have := List.all_eq_true.mp hf i hi
    rw [e] at this
    simpa using this
  refine ⟨R2.fh, R2.ff, R2.fr, R2.nw, R2.ih, ?_, fun i l e => ?_, fun i j l m v e1 e2 h1 h2 e3 e4 => ?_, R2.ok, fun i l b xs e hb => ?_⟩
  · rw [restE_length, ← R2.len, wipe_length]
  · rcases restE_get e with ⟨hi, e⟩ | ⟨hi, e⟩
    · have z := R1.sl i l e
      rcases not_own (nown hi e) with ⟨x, rfl⟩ | ⟨w, rfl⟩
      · obtain ⟨v, e1, d⟩ := z; exact ⟨v, e1, d.mono s⟩
      · obtain ⟨v, e1, d⟩ := z; exact ⟨v, e1, d.mono s⟩
    · have z := R2.sl i l e
      rw [wipe_ne hi] at z; exact z
  · rcases restE_get e1 with ⟨hi, q⟩ | ⟨hi, q⟩
    · rw [nown hi q] at h1; cases h1
    · rcases restE_get e2 with ⟨hj, q2⟩ | ⟨hj, q2⟩
      · rw [nown hj q2] at h2; cases h2
      · exact R2.ds i j l m v q q2 h1 h2 (by rw [wipe_ne hi]; exact e3) (by rw [wipe_ne hj]; exact e4)
  · rcases restE_get e with ⟨hi, q⟩ | ⟨hi, q⟩
    · rw [Lc.fp_own (nown hi q)] at hb; cases hb
    · obtain ⟨z, w⟩ := R2.ns i l b xs q hb
      refine ⟨z, fun j m e2 => ?_⟩
      rcases restE_get e2 with ⟨hj, q2⟩ | ⟨hj, q2⟩
      · have no := nown hj q2
        exact ⟨fun z => (by rw [no] at z; cases z), fun ys hy => (by rw [Lc.fp_own no] at hy; cases hy)⟩
      · have := w j m q2
        rw [wipe_ne hj] at this; exact this
theorem Rel.side [Pn] {p : Addr} {o : HO} (R : Rel K G ρ F σ H) (hF : F p = none) (h0 : G.H0 p = none) (hf : ∀ (j : Nat) (m : Lc), ρ[j]? = some (some m) → m.own = true → σ[j]? ≠ some (some (.ref p))) (hn : NoN ρ p) : Rel K G ρ F σ (upd H p o) := by
  refine ⟨fun b u q => ?_, R.ff, fun b u q hb => ?_, R.nw, fun b hb => ⟨?_, (R.ih b hb).2⟩, R.len, fun i l e => ?_, R.ds, R.ok, fun i l b xs e hb => ⟨⟨(R.ns i l b xs e hb).1.nf, (R.ns i l b xs e hb).1.ow, ?_⟩, (R.ns i l b xs e hb).2⟩⟩
  · rw [upd_ne (ne_of_none q hF)]; exact R.fh _ _ q
  · rw [upd_ne (ne_of_none q h0)]; exact R.fr b u q hb
  · by_cases hbp : b = p
    · subst hbp; rw [upd_same]; simp
    · rw [upd_ne hbp]; exact (R.ih b hb).1
  · have z := R.sl i l e
    cases hl : l.own with
    | true =>
      rw [own_slot hl] at z ⊢
      obtain ⟨a, e1, nf, ow, ob, eo, ok⟩ := z
      have : a ≠ p := fun q => hf i l e hl (by rw [e1, q])
      exact ⟨a, e1, nf, ow, ob, by rw [upd_ne this]; exact eo, ok⟩
    | false =>
      rcases not_own hl with ⟨x, rfl⟩ | ⟨w, rfl⟩
      · exact z
      · exact z
  · obtain ⟨vs, z1, z2⟩ := (R.ns i l b xs e hb).1.ob
    exact ⟨vs, by rw [upd_ne fun q => hn i l xs e (by rw [← q]; exact hb)]; exact z1, z2⟩
def Wk.apart (vs : List Nat) : Wk → Bool
  | .items _ => true
  | .own s _ _ => !vs.contains s
  | .nst _ _ _ _ => true
def fLc (src : TId) (vs : List Nat) (pt : Pt) (c : TTd) (el : TD) : TF := fun ρ Q => src ρ fun w ρ1 => (lcFree ρ1 vs = true ∧ w.apart vs = true) ∧ ∃ I : Nat → List PD → En → Prop, I 0 [] (wipeE ρ1 vs) ∧
  (∀ i acc ρ2, I i acc ρ2 → w.keeps ρ2) ∧
  (∀ i x acc ρ2, w.list[i]? = some x → I i acc ρ2 → pt.go x ρ2 fun ρ3 => c ρ3 fun b ρ4 => brB b (el ρ4 fun y ρ5 => acc.length < sizeLine ∧ I (i + 1) (acc ++ [y]) (wipeE ρ5 vs)) (I (i + 1) acc (wipeE ρ4 vs))) ∧
  ∀ acc ρ2, I w.list.length acc ρ2 → Q (.ls none acc) (restE ρ1 ρ2 vs)
theorem tLc_of [Pn] {src : TId} {vs : List Nat} {pt : Pt} (hs : ∀ i ∈ pt.slots, i ∈ vs) {Q : VK} (h : liftF K (fLc src vs pt c el) σ H Q) : tLc (liftI K src) (pt.tg K) (liftT K c) (liftD K el) vs σ H Q := by
  obtain ⟨G, ρ, F, Q', R, q, k⟩ := h
  refine ⟨G, ρ, F, _, R, q, fun w ρ1 H1 F1 J q1 R1 s1 wk D hD => ?_⟩
  obtain ⟨⟨hfree, hap⟩, I, i0, ikeep, turn, fin⟩ := q1
  have h0 : G.H0 D = none := R1.h0 hD
  have dio : D ∉ G.io := fun z => (R1.ih D z).2 h0
  have kS : w.keepS (L2.wipe σ vs) σ := by
    cases w with
    | items xs => trivial
    | nst s nm b xs => trivial
    | own s p xs =>
      have : s ∉ vs := by simpa [Wk.apart] using hap
      exact wipe_ne this
  let Hd := fun (i : Nat) (H : Hp) => ∃ ρ2 F2 accV acc, Rel K G (wipeE ρ2 vs) F2 (L2.wipe σ vs) H ∧ Same F1 F2 ∧ H D = some (.lst accV) ∧ DfA K F2 accV acc ∧ F2 D = none ∧ NoN (wipeE ρ2 vs) D ∧
    (∀ (j : Nat) (m : Lc), (wipeE ρ2 vs)[j]? = some (some m) → m.own = true → (L2.wipe σ vs)[j]? ≠ some (some (.ref D))) ∧ I i acc (wipeE ρ2 vs)
  have start : Hd 0 (upd H1 D (.lst [])) := by
    have Rw := R1.wipe vs (σ' := L2.wipe σ vs) (wipe_length σ vs) fun j hj => wipe_ne hj
    refine ⟨ρ1, F1, [], [], Rw.grow (Grow.owned R1.fh hD _), Same.refl _, upd_same, .nil, R1.fh.free hD, ((R1.noN_free hD).sub fun j m e => (wipeE_get e).2), fun j m e hm z => ?_, i0⟩
    obtain ⟨a, e1, _, _, ob, eo, _⟩ := Rw.at_ e hm
    rw [z] at e1
    have : D = a := by simpa using e1
    subst this
    rw [hD] at eo; cases eo
  refine ⟨fun i m H => m = w.list.length - i ∧ i ≤ w.list.length ∧ Hd i H, ⟨w.list.length, rfl, Nat.zero_le _, start⟩, ?_⟩
  rintro i m H2 ⟨rfl, hi, ρ2, F2, accV, acc, R2, s2, hDv, dA, fD, nN, nD, i2⟩
  obtain ⟨wstop, wgo⟩ := wk G i _ F2 _ H2 R2 s2 (ikeep _ _ _ i2) kS
  by_cases hlt : i < w.list.length
  · obtain ⟨go, yld⟩ := wgo hlt
    refine .inr ⟨go, Hd (i + 1), fun H' h => ⟨_, by omega, rfl, hlt, h⟩, fun x H' y => ?_⟩
    obtain ⟨F', d, g, ed, dd⟩ := yld x H' y
    have R3 := R2.grow g
    have fD' : F' D = none := by
      cases q : F' D with
      | none => rfl
      | some u =>
        rcases g.nw D (by rw [q]; simp) fD with this | ⟨us, this⟩
        · rw [hDv] at this; cases this
        · have this := g.fh _ _ this
          rw [g.hh _ _ hDv] at this; cases this
    have Rp := R3.pin fD' (g.hh _ _ hDv) h0 nD nN
    refine pt_go pt Rp dd (turn i d acc _ ed i2) fun ρ3 σ3 q3 R4 o3 => ⟨wipe_only hs o3, G.pin D (.lst accV), ρ3, F', _, R4, q3, fun b ρ4 H4 F4 h4 R5 s5 => ?_⟩
    have hj : ∀ j, j ∉ vs → (L2.wipe σ vs)[j]? = σ3[j]? := fun j hj => (o3.2 j fun z => hj (hs j z)).symm
    have hl3 : (L2.wipe σ vs).length = σ3.length := o3.1.symm
    cases b with
    | false =>
      obtain ⟨R6, f6, h6, n6⟩ := R5.unpin R1.ok h0 (R1.ff.free (R1.fh.free hD)) dio
      refine iteF ⟨ρ4, F4, accV, acc, R6.wipe vs hl3 hj, s2.trans (g.ff.trans s5), h6, dA.mono (g.ff.trans s5), f6, ((R5.unpinN dio).sub fun j m e => (wipeE_get e).2), fun j m e hm z => ?_, h4.2 rfl⟩
      obtain ⟨a, b⟩ := wipeE_get e
      exact n6 j m b hm (by rw [← hj j a]; exact z)
    | true =>
      refine iteT ⟨G.pin D (.lst accV), ρ4, F4, _, R5, h4.1 rfl, fun y ρ5 u H5 F5 h5 R7 s7 dy => ?_⟩
      obtain ⟨hlen, h5⟩ := h5
      obtain ⟨R6, f6, h6, n6⟩ := R7.unpin R1.ok h0 (R1.ff.free (R1.fh.free hD)) dio
      have sA := g.ff.trans (s5.trans s7)
      refine ⟨accV, h6, by rw [dA.length]; exact hlen, ρ5, F5, accV ++ [u], acc ++ [y], ?_, s2.trans sA, upd_same, (dA.mono sA).snoc dy, f6, ((R7.unpinN dio).sub fun j m e => (wipeE_get e).2), fun j m e hm z => ?_, h5⟩
      · exact (R6.side f6 h0 n6 (R7.unpinN dio)).wipe vs hl3 hj
      · obtain ⟨a, b⟩ := wipeE_get e
        exact n6 j m b hm (by rw [← hj j a]; exact z)
  · have ei : i = w.list.length := by omega
    subst ei
    refine .inl ⟨wstop (Nat.le_refl _), k (.ls none acc) _ _ H2 F2 (fin acc _ i2) (R1.rest vs hfree R2 s2) (s1.trans s2) ⟨D, rfl, rfl, ⟨fD, h0, _, hDv, dA⟩, ⟨fun j m e hm z => ?_, fun j m ys e hy => ?_, .nil rfl⟩⟩⟩
    · rcases restE_get e with ⟨hj, e⟩ | ⟨hj, e⟩
      · have := List.all_eq_true.mp hfree j hj
        rw [e] at this
        have this : (!m.own) = true := this
        rw [hm] at this; cases this
      · exact nD j m e hm (by rw [wipe_ne hj]; exact z)
    · rcases restE_get e with ⟨hj, e⟩ | ⟨hj, e⟩
      · have := List.all_eq_true.mp hfree j hj
        rw [e] at this
        have this : (!m.own) = true := this
        rw [Lc.fp_own (by simpa using this)] at hy; cases hy
      · exact nN j m ys e hy
def cYes : TTd := fun ρ Q => Q true ρ
theorem LT.yes [Pn] : ∀ {X : Cx}, PTs X [] (liftT X.K cYes) := fun {X} => ⟨fun pins s σ H Q I h => pts_nil.run pins s σ H Q I (by
  obtain ⟨G, ρ, F, Q', R, q, k⟩ := h
  exact k _ _ _ _ q R (Same.refl _))⟩
theorem LF.lc [Pn] {scope : Scope} {own : List (Str × Nat)} {vs : List Nat} {src : TId} {pt : Pt} (hc : X.calm = true) (hN : X.N.Nodup) (hi : LI X tg iter src) (ok : BlkOk X.N X.env.scope scope own) (hv : own.map (·.2) = vs) (hs : ∀ i ∈ pt.slots, i ∈ vs)
    (hg : ∀ (s : Shared) (H : Hp) (C : Addr) (cl : List (Str × Addr)) (fp : List Addr), PG (X.blk s H scope (compEnvC scope cl C X.env) fp) tg (pt.tg X.K)) (ht : ∀ (s : Shared) (H : Hp) (C : Addr) (cl : List (Str × Addr)) (fp : List Addr), PTs (X.blk s H scope (compEnvC scope cl C X.env) fp) ifs (liftT X.K c))
    (he : ∀ (s : Shared) (H : Hp) (C : Addr) (cl : List (Str × Addr)) (fp : List Addr), LD (X.blk s H scope (compEnvC scope cl C X.env) fp) elt el) (hf : ∀ x, foldedSetIterable iter X.env x = pure x := by intro _; rfl) :
    LF X (.ListComp elt [⟨tg, iter, ifs, 0⟩] scope pos) (fLc src vs pt c el) := ⟨peImp (pe_lc hc hN hi.p ok hg ht (fun s H C cl fp => (he s H C cl fp).p) hf) fun σ H Q h => by rw [hv]; exact tLc_of hs h⟩
theorem LS.lc [Pn] {i : Nat} {y : Str} {py spos : Pos} {scope : Scope} {own : List (Str × Nat)} {vs : List Nat} {src : TId} {pt : Pt} (hc : X.calm = true) (hN : X.N.Nodup) (hy : X.N[i]? = some y) (hyl : X.env.scope.names.lookup y = some .local)
    (hsw : swapsWith (.ListComp elt [⟨tg, iter, ifs, 0⟩] scope pos) (some (.Name y py)) spos.line X.env = pure true) (hi : LI X tg iter src) (ok : BlkOk X.N X.env.scope scope own) (hv : own.map (·.2) = vs) (hs : ∀ i ∈ pt.slots, i ∈ vs)
    (hg : ∀ (s : Shared) (H : Hp) (C : Addr) (cl : List (Str × Addr)) (fp : List Addr), PG (X.blk s H scope (compEnvC scope cl C X.env) fp) tg (pt.tg X.K)) (ht : ∀ (s : Shared) (H : Hp) (C : Addr) (cl : List (Str × Addr)) (fp : List Addr), PTs (X.blk s H scope (compEnvC scope cl C X.env) fp) ifs (liftT X.K c))
    (he : ∀ (s : Shared) (H : Hp) (C : Addr) (cl : List (Str × Addr)) (fp : List Addr), LD (X.blk s H scope (compEnvC scope cl C X.env) fp) elt el) (hf : ∀ x, foldedSetIterable iter X.env x = pure x := by intro _; rfl) :
    LS X (.Assign [.Name y py] (.ListComp elt [⟨tg, iter, ifs, 0⟩] scope pos) spos) (sAsg i (fLc src vs pt c el)) := ⟨psImp (ps_setLc hc hN hy hyl hsw hi.p ok hg ht (fun s H C cl fp => (he s H C cl fp).p) hf) fun D σ H ⟨G, ρ, F, D', R, q, k⟩ => by
  have h : liftF X.K (fLc src vs pt c el) σ H (fun x H1 => gName i x σ H1 D.nx) := ⟨G, ρ, F, _, R, q, fun l ρ1 v H1 F1 h1 R1 s1 r1 => k.nx _ _ _ _ h1 (r1.store R1 i) s1⟩
  show tLc _ _ _ _ (own.map (·.2)) σ H _
  rw [hv]
  exact tLc_of hs h⟩
structure FSpec where
  sp : List Lc → (Lc → List Lc → Prop) → Prop
def ArgOk (K : PySem.W.Frag) (F H : Hp) (ios : List Addr) : Lc → V → Prop
  | .d x, v => Df K F v x
  | .sc xs, v => ScOk K F xs v
  | l, v => ∃ a k, v = .ref a ∧ l.tag = some k ∧ ios[k]? = some a ∧ F a = none ∧ (∃ o, H a = some o ∧ HoOk K F l o) ∧ ∀ b xs, (b, xs) ∈ l.fp → F b = none ∧ ∃ vs, H b = some (.lst vs) ∧ DfA K F vs xs
inductive ArgsOk (K : PySem.W.Frag) (F H : Hp) (ios : List Addr) : List Lc → List V → Prop
  | nil : ArgsOk K F H ios [] []
  | cons {l : Lc} {v : V} {ls : List Lc} {vs : List V} : ArgOk K F H ios l v → ArgsOk K F H ios ls vs → ArgsOk K F H ios (l :: ls) (v :: vs)
def tags (ls : List Lc) : List Nat := ls.filterMap Lc.tag
def nioOf : List Lc → List (Nat × Addr)
  | [] => []
  | l :: r => (match l.tag with
    | some k => l.fp.map fun x => (k, x.1)
    | none => []) ++ nioOf r
theorem nioOf_mem : ∀ {args : List Lc} {k : Nat} {b : Addr}, (k, b) ∈ nioOf args → ∃ (i : Nat) (l : Lc) (xs : List PD), args[i]? = some l ∧ l.tag = some k ∧ (b, xs) ∈ l.fp
  | [], k, b, h => by cases h
  | l :: r, k, b, h => by
    unfold nioOf at h
    rcases List.mem_append.mp h with h | h
    · cases e : l.tag with
      | none => rw [e] at h; cases h
      | some j =>
        rw [e] at h
        obtain ⟨x, hx, ex⟩ := List.mem_map.mp h
        have e1 : j = k := (Prod.mk.inj ex).1
        have e2 : x.1 = b := (Prod.mk.inj ex).2
        exact ⟨0, l, x.2, rfl, by rw [e, e1], by rw [← e2]; exact hx⟩
    · obtain ⟨i, m, xs, z⟩ := nioOf_mem h
      exact ⟨i + 1, m, xs, by simpa using z⟩
theorem nioOf_in : ∀ {args : List Lc} {i k : Nat} {l : Lc} {b : Addr} {xs : List PD}, args[i]? = some l → l.tag = some k → (b, xs) ∈ l.fp → (k, b) ∈ nioOf args
  | [], i, k, l, b, xs, e, _, _ => by simp at e
  | a :: r, i, k, l, b, xs, e, t, h => by
    unfold nioOf
    refine List.mem_append.mpr ?_
    cases i with
    | zero =>
      simp at e; subst e
      rw [t]
      exact .inl (List.mem_map.mpr ⟨(b, xs), h, rfl⟩)
    | succ i => exact .inr (nioOf_in (by simpa using e) t h)
structure IoOk (H : Hp) (ios : List Addr) (n : Nat) (args : List Lc) : Prop where
  nd : ios.Nodup
  ex : ∀ a ∈ ios, H a ≠ none
  tg : tags args = List.range n
  le : n ≤ ios.length
  nx : ∀ k b, (k, b) ∈ nioOf args → b ∈ ios.drop n
  dj : ∀ (i j : Nat) (l m : Lc) (b : Addr) (xs ys : List PD), args[i]? = some l → args[j]? = some m → (b, xs) ∈ l.fp → (b, ys) ∈ m.fp → i = j
theorem drop_ne {ios : List Addr} {n k : Nat} {a b : Addr} (nd : ios.Nodup) (h : b ∈ ios.drop n) (hk : k < n) (e : ios[k]? = some a) : a ≠ b := fun q => by
  subst q
  obtain ⟨j, hj, ej⟩ := List.getElem_of_mem h
  rw [List.getElem_drop] at ej
  obtain ⟨hk', ek⟩ := List.getElem?_eq_some_iff.mp e
  have hj2 : n + j < ios.length := by rw [List.length_drop] at hj; omega
  have := (List.getElem_inj (h₀ := hj2) (h₁ := hk') nd).mp (ej.trans ek.symm)
  omega
structure Post (K : PySem.W.Frag) (F H : Hp) (ios : List Addr) (n : Nat) (nio : List (Nat × Addr)) (r : Lc) (outs : List Lc) (v : V) (F' H' : Hp) : Prop where
  ff : Same F F'
  fh : Same F' H'
  fr : ∀ b o, H b = some o → b ∉ ios → H' b = some o
  nw : ∀ b, F' b ≠ none → F b = none → H b = none ∨ ∃ us, F' b = some (.tup us)
  ol : outs.length = n
  ou : ∀ (k : Nat) (l : Lc), outs[k]? = some l → ∃ a o, ios[k]? = some a ∧ F' a = none ∧ H' a = some o ∧ HoOk K F' l o ∧ l.tag = some k
  hx : ∀ a ∈ ios, H' a ≠ none
  on : ∀ (k : Nat) (l : Lc) (b : Addr) (xs : List PD), outs[k]? = some l → (b, xs) ∈ l.fp → (F' b = none ∧ (H b = none ∨ (k, b) ∈ nio) ∧ ∃ vs, H' b = some (.lst vs) ∧ DfA K F' vs xs) ∧ (∀ k', k' < n → ios[k']? ≠ some b) ∧ ∀ (k' : Nat) (m : Lc) (ys : List PD), outs[k']? = some m → (b, ys) ∈ m.fp → k' = k
  rs : match r with
    | .d x => Df K F' v x
    | .sc xs => ScOk K F' xs v
    | l => ∃ a o, v = .ref a ∧ H a = none ∧ F' a = none ∧ H' a = some o ∧ HoOk K F' l o ∧ l.tag = none
  rn : ∀ (b : Addr) (xs : List PD), (b, xs) ∈ r.fp → (F' b = none ∧ H b = none ∧ ∃ vs, H' b = some (.lst vs) ∧ DfA K F' vs xs) ∧ v ≠ .ref b ∧ ∀ (k : Nat) (m : Lc) (ys : List PD), outs[k]? = some m → (b, ys) ∉ m.fp
  ra : ∀ a, r.own = true → v = .ref a → ∀ (k : Nat) (m : Lc) (ys : List PD), outs[k]? = some m → (a, ys) ∉ m.fp
def liftC (K : PySem.W.Frag) (S : FSpec) : Sp := fun vs H Q _ => ∃ args F ios n Qd, Same F H ∧ ArgsOk K F H ios args vs ∧ IoOk H ios n args ∧
  S.sp args Qd ∧ ∀ r outs v F' H', Qd r outs → Post K F H ios n (nioOf args) r outs v F' H' → Q v H'
theorem ArgsOk.length {ios : List Addr} {ls : List Lc} {vs : List V} (h : ArgsOk K F H ios ls vs) : ls.length = vs.length := by
  induction h with
  | nil => rfl
  | cons _ _ ih => rw [List.length_cons, List.length_cons, ih]
def argsAt (ρ : En) : List AV → Nat → Option (List Lc × List Nat)
  | [], _ => some ([], [])
  | .v x :: r, k => (argsAt ρ r k).map fun p => (.d x :: p.1, p.2)
  | .s i :: r, k => match ρ[i]? with
    | some (some (.d x)) => (argsAt ρ r k).map fun p => (.d x :: p.1, p.2)
    | some (some (.sc xs)) => (argsAt ρ r k).map fun p => (.sc xs :: p.1, p.2)
    | some (some l) => (argsAt ρ r (k + 1)).map fun p => (l.retag (some k) :: p.1, i :: p.2)
    | _ => none
  | .f _ _ _ :: _, _ => none
def nodupB : List Nat → Bool
  | [] => true
  | i :: r => !r.contains i && nodupB r
theorem nodup_of {is : List Nat} (h : nodupB is = true) : is.Nodup := by
  induction is with
  | nil => exact List.nodup_nil
  | cons i r ih =>
    unfold nodupB at h
    rw [Bool.and_eq_true] at h
    exact List.nodup_cons.mpr ⟨by simpa using h.1, ih h.2⟩
def tagAt (ρ : En) (i : Nat) : Option Nat := match ρ[i]? with
  | some (some l) => l.tag
  | _ => none
def putO (ρ0 : En) : En → List Nat → List Lc → En
  | ρ, i :: is, l :: ls => putO ρ0 (ρ.set i (some (l.retag (tagAt ρ0 i)))) is ls
  | ρ, _, _ => ρ
def putF (ρ0 : En) : En → List Nat → List Lc → (En → Prop) → Prop
  | ρ, i :: is, l :: ls, k => match tagAt ρ0 i with
    | none => force (ρ.set i (some (l.retag none))) fun ρ' => putF ρ0 ρ' is ls k
    | some j => force (ρ.set i (some (l.retag (some j)))) fun ρ' => putF ρ0 ρ' is ls k
  | ρ, _, _, k => k ρ
theorem putF_eq {ρ0 : En} : ∀ (is : List Nat) (ls : List Lc) (ρ : En) (k : En → Prop), putF ρ0 ρ is ls k = k (putO ρ0 ρ is ls)
  | [], ls, ρ, k => by cases ls <;> rfl
  | i :: is, [], ρ, k => rfl
  | i :: is, l :: ls, ρ, k => by
    unfold putF putO
    cases tagAt ρ0 i with
    | none => dsimp only; rw [force_eq, putF_eq is ls]
    | some j => dsimp only; rw [force_eq, putF_eq is ls]
def fCall (S : FSpec) (t : TAd) : TF := fun ρ Q => t ρ fun as ρ1 => match argsAt ρ1 as 0 with
  | some (args, is) => nodupB is = true ∧ S.sp args fun r outs => putF ρ1 ρ1 is outs fun ρ2 => Q r ρ2
  | none => False
theorem putO_length {ρ0 : En} {is : List Nat} {ls : List Lc} : (putO ρ0 ρ is ls).length = ρ.length := by
  induction is generalizing ρ ls with
  | nil => cases ls <;> rfl
  | cons i is ih =>
    cases ls with
    | nil => rfl
    | cons l ls => show (putO ρ0 (ρ.set i _) is ls).length = _; rw [ih, List.length_set]
theorem putO_get {ρ0 : En} {is : List Nat} {ls : List Lc} {j : Nat} {l : Lc} (hn : is.Nodup) (hl : ls.length = is.length) (h : (putO ρ0 ρ is ls)[j]? = some (some l)) :
    (j ∉ is ∧ ρ[j]? = some (some l)) ∨ ∃ (k : Nat) (m : Lc), is[k]? = some j ∧ ls[k]? = some m ∧ l = m.retag (tagAt ρ0 j) := by
  induction is generalizing ρ ls with
  | nil => cases ls <;> exact .inl ⟨by simp, h⟩
  | cons i is ih =>
    cases ls with
    | nil => simp at hl
    | cons m ls =>
      have h : (putO ρ0 (ρ.set i (some (m.retag (tagAt ρ0 i)))) is ls)[j]? = some (some l) := h
      rw [List.nodup_cons] at hn
      rcases ih hn.2 (by simpa using hl) h with ⟨h1, h2⟩ | ⟨k, m', h1, h2, h3⟩
      · rcases set_get h2 with ⟨rfl, _, z⟩ | ⟨hne, h2⟩
        · cases z; exact .inr ⟨0, m, rfl, rfl, rfl⟩
        · exact .inl ⟨by simp only [List.mem_cons, not_or]; exact ⟨hne, h1⟩, h2⟩
      · exact .inr ⟨k + 1, m', by simpa using h1, by simpa using h2, h3⟩
theorem argsAt_ok [Pn] (R : Rel K G ρ F σ H) : ∀ {as : List AV} {vs : List V} {k : Nat} {args : List Lc} {is : List Nat}, AvA K F σ as vs → argsAt ρ as k = some (args, is) → ∀ pre : List Addr, pre.length = k →
    ∃ post : List Addr, post.length = is.length ∧ (∀ (j i : Nat), is[j]? = some i → ∃ a l, post[j]? = some a ∧ σ[i]? = some (some (.ref a)) ∧ ρ[i]? = some (some l) ∧ l.own = true) ∧
      ArgsOk K F H (pre ++ post) args vs ∧ tags args = List.range' k is.length
  | _, _, k, args, is, .nil, e, pre, hp => by
    have e : some (([] : List Lc), ([] : List Nat)) = some (args, is) := e
    cases e
    exact ⟨[], rfl, fun j i z => by simp at z, .nil, rfl⟩
  | .v x :: r, v :: vs, k, args, is, .cons a t, e, pre, hp => by
    have e : (argsAt ρ r k).map (fun p => (Lc.d x :: p.1, p.2)) = some (args, is) := e
    cases q : argsAt ρ r k with
    | none => rw [q] at e; cases e
    | some p =>
      obtain ⟨as', is'⟩ := p
      rw [q] at e; cases e
      obtain ⟨post, h1, h2, h3, h4⟩ := argsAt_ok R t q pre hp
      exact ⟨post, h1, h2, .cons a h3, h4⟩
  | .f _ _ _ :: r, v :: vs, k, args, is, .cons a t, e, pre, hp => by
    have e : (none : Option (List Lc × List Nat)) = some (args, is) := e
    cases e
  | .s i :: r, v :: vs, k, args, is, .cons a t, e, pre, hp => by
    have a : σ[i]? = some (some v) := a
    unfold argsAt at e
    split at e
    · rename_i x er
      cases q : argsAt ρ r k with
      | none => rw [q] at e; cases e
      | some p =>
        obtain ⟨as', is'⟩ := p
        rw [q] at e; cases e
        obtain ⟨post, h1, h2, h3, h4⟩ := argsAt_ok R t q pre hp
        obtain ⟨w, ew, d⟩ := R.sl i _ er
        rw [a] at ew
        have : v = w := by simpa using ew
        subst this
        exact ⟨post, h1, h2, .cons d h3, h4⟩
    · rename_i u er
      cases q : argsAt ρ r k with
      | none => rw [q] at e; cases e
      | some p =>
        obtain ⟨as', is'⟩ := p
        rw [q] at e; cases e
        obtain ⟨post, h1, h2, h3, h4⟩ := argsAt_ok R t q pre hp
        obtain ⟨w, ew, d⟩ := R.sl i _ er
        rw [a] at ew
        have : v = w := by simpa using ew
        subst this
        exact ⟨post, h1, h2, .cons d h3, h4⟩
    · rename_i l n1 n2 er
      have ho : l.own = true := by
        cases l with
        | d x => exact absurd rfl (n1 x)
        | sc u => exact absurd rfl (n2 u)
        | _ => rfl
      obtain ⟨b, es, at_⟩ := R.at_ er ho
      cases q : argsAt ρ r (k + 1) with
      | none => rw [q] at e; cases e
      | some p =>
        obtain ⟨as', is'⟩ := p
        rw [q] at e; cases e
        obtain ⟨post, h1, h2, h3, h4⟩ := argsAt_ok R t q (pre ++ [b]) (by rw [List.length_append, hp]; rfl)
        rw [a] at es
        have ev : v = .ref b := by simpa using es
        have z : ∃ a' k', v = .ref a' ∧ (l.retag (some k)).tag = some k' ∧ (pre ++ b :: post)[k']? = some a' ∧ F a' = none ∧ (∃ o, H a' = some o ∧ HoOk K F (l.retag (some k)) o) ∧ ∀ c xs, (c, xs) ∈ (l.retag (some k)).fp → F c = none ∧ ∃ vs, H c = some (.lst vs) ∧ DfA K F vs xs := by
          obtain ⟨o, eo, ok⟩ := at_.ob
          refine ⟨b, k, ev, Lc.retag_tag _ _ ho, by rw [← hp]; simp, at_.nf, ⟨o, eo, ok.retag _⟩, fun c xs hc => ?_⟩
          rw [Lc.retag_fp] at hc
          have := (R.ns _ _ _ _ er hc).1
          exact ⟨this.nf, this.ob⟩
        refine ⟨b :: post, by rw [List.length_cons, List.length_cons, h1], fun j i' e' => ?_, .cons ?_ (by rw [List.append_assoc] at h3; exact h3), ?_⟩
        · cases j with
          | zero => simp at e'; subst e'; exact ⟨b, l, rfl, by rw [a, ev], er, ho⟩
          | succ j => obtain ⟨a', l', q1, q2⟩ := h2 j i' (by simpa using e'); exact ⟨a', l', by simpa using q1, q2⟩
        · cases l <;> first | (simp [Lc.own] at ho; done) | exact z
        · show List.filterMap Lc.tag (l.retag (some k) :: as') = _
          rw [List.filterMap_cons, Lc.retag_tag _ _ ho]
          show k :: tags as' = _
          rw [h4]; rfl
    · cases e
theorem nodup_post [Pn] (R : Rel K G ρ F σ H) {is : List Nat} {post : List Addr} (hl : post.length = is.length) (h : ∀ (j i : Nat), is[j]? = some i → ∃ a l, post[j]? = some a ∧ σ[i]? = some (some (.ref a)) ∧ ρ[i]? = some (some l) ∧ l.own = true) (hn : is.Nodup) : post.Nodup := by
  rw [List.nodup_iff_pairwise_ne, List.pairwise_iff_getElem]
  intro i j hi hj hij e
  have hi' : i < is.length := by omega
  have hj' : j < is.length := by omega
  obtain ⟨a, l, q1, q2, q3, q4⟩ := h i is[i] (List.getElem?_eq_getElem hi')
  obtain ⟨b, m, p1, p2, p3, p4⟩ := h j is[j] (List.getElem?_eq_getElem hj')
  rw [List.getElem?_eq_getElem hi] at q1
  rw [List.getElem?_eq_getElem hj] at p1
  have e1 : a = b := by
    have q1 : post[i] = a := by simpa using q1
    have p1 : post[j] = b := by simpa using p1
    rw [← q1, ← p1, e]
  subst e1
  have := R.ds _ _ l m _ q3 p3 q4 p4 q2 p2
  rw [List.nodup_iff_pairwise_ne, List.pairwise_iff_getElem] at hn
  exact hn i j hi' hj' hij this
theorem tags_inj : ∀ {args : List Lc} {i j : Nat} {l m : Lc} {k : Nat}, (tags args).Nodup → args[i]? = some l → args[j]? = some m → l.tag = some k → m.tag = some k → i = j
  | [], i, j, l, m, k, _, e1, _, _, _ => by simp at e1
  | a :: r, i, j, l, m, k, hn, e1, e2, t1, t2 => by
    have mem : ∀ {i : Nat} {l : Lc}, r[i]? = some l → l.tag = some k → k ∈ tags r := fun e t => List.mem_filterMap.mpr ⟨_, List.mem_of_getElem? e, t⟩
    unfold tags at hn
    rw [List.filterMap_cons] at hn
    cases i with
    | zero =>
      simp at e1; subst e1
      rw [t1] at hn
      cases j with
      | zero => rfl
      | succ j => exact absurd (mem (by simpa using e2) t2) (List.nodup_cons.mp hn).1
    | succ i =>
      cases j with
      | zero =>
        simp at e2; subst e2
        rw [t2] at hn
        exact absurd (mem (by simpa using e1) t1) (List.nodup_cons.mp hn).1
      | succ j =>
        have hn' : (tags r).Nodup := by
          cases q : a.tag with
          | none => rw [q] at hn; exact hn
          | some k' => rw [q] at hn; exact (List.nodup_cons.mp hn).2
        exact congrArg (· + 1) (tags_inj hn' (by simpa using e1) (by simpa using e2) t1 t2)
theorem ArgOk.more {ios rest : List Addr} {l : Lc} (h : ArgOk K F H ios l v) : ArgOk K F H (ios ++ rest) l v := by
  cases l <;> first | exact h | (obtain ⟨a, k, e1, e2, e3, e4⟩ := h; exact ⟨a, k, e1, e2, by rw [List.getElem?_append_left (List.getElem?_eq_some_iff.mp e3).1]; exact e3, e4⟩)
theorem ArgsOk.more {ios rest : List Addr} : ∀ {ls : List Lc} {vs : List V}, ArgsOk K F H ios ls vs → ArgsOk K F H (ios ++ rest) ls vs
  | _, _, .nil => .nil
  | _, _, .cons a t => .cons a.more t.more
theorem dedup (l : List Nat) : ∃ r : List Nat, r.Nodup ∧ ∀ x, x ∈ r ↔ x ∈ l := by
  induction l with
  | nil => exact ⟨[], List.nodup_nil, fun _ => Iff.rfl⟩
  | cons a l ih =>
    obtain ⟨r, h1, h2⟩ := ih
    by_cases z : a ∈ r
    · exact ⟨r, h1, fun x => by rw [h2, List.mem_cons]; exact ⟨.inr, fun w => w.elim (fun e => by rw [e]; exact (h2 a).mp z) id⟩⟩
    · exact ⟨a :: r, List.nodup_cons.mpr ⟨z, h1⟩, fun x => by rw [List.mem_cons, List.mem_cons, h2]⟩
theorem argsAt_nio [Pn] (R : Rel K G ρ F σ H) : ∀ {as : List AV} {k : Nat} {args : List Lc} {is : List Nat}, argsAt ρ as k = some (args, is) → ∀ {n : Nat} {l : Lc}, args[n]? = some l → l.fp ≠ [] → ∃ (j i : Nat) (l0 : Lc), is[j]? = some i ∧ ρ[i]? = some (some l0) ∧ l0.own = true ∧ l = l0.retag (some (k + j)) ∧ l.tag = some (k + j)
  | [], k, args, is, e, n, l, en, _ => by
    have e : some (([] : List Lc), ([] : List Nat)) = some (args, is) := e
    cases e; simp at en
  | .v x :: r, k, args, is, e, n, l, en, hl => by
    have e : (argsAt ρ r k).map (fun p => (Lc.d x :: p.1, p.2)) = some (args, is) := e
    cases q : argsAt ρ r k with
    | none => rw [q] at e; cases e
    | some p =>
      obtain ⟨as', is'⟩ := p
      rw [q] at e; cases e
      cases n with
      | zero => simp at en; subst en; exact absurd rfl hl
      | succ n => exact argsAt_nio R q (by simpa using en) hl
  | .f _ _ _ :: r, k, args, is, e, n, l, en, hl => by
    have e : (none : Option (List Lc × List Nat)) = some (args, is) := e
    cases e
  | .s i :: r, k, args, is, e, n, l, en, hl => by
    unfold argsAt at e
    split at e
    · cases q : argsAt ρ r k with
      | none => rw [q] at e; cases e
      | some p =>
        obtain ⟨as', is'⟩ := p
        rw [q] at e; cases e
        cases n with
        | zero => simp at en; subst en; exact absurd rfl hl
        | succ n => exact argsAt_nio R q (by simpa using en) hl
    · cases q : argsAt ρ r k with
      | none => rw [q] at e; cases e
      | some p =>
        obtain ⟨as', is'⟩ := p
        rw [q] at e; cases e
        cases n with
        | zero => simp at en; subst en; exact absurd rfl hl
        | succ n => exact argsAt_nio R q (by simpa using en) hl
    · rename_i l1 n1 n2 er
      have ho : l1.own = true := by
        cases l1 with
        | d x => exact absurd rfl (n1 x)
        | sc u => exact absurd rfl (n2 u)
        | _ => rfl
      cases q : argsAt ρ r (k + 1) with
      | none => rw [q] at e; cases e
      | some p =>
        obtain ⟨as', is'⟩ := p
        rw [q] at e; cases e
        cases n with
        | zero => simp at en; subst en; exact ⟨0, i, l1, rfl, er, ho, rfl, Lc.retag_tag _ _ ho⟩
        | succ n =>
          obtain ⟨j, i', l0, g1, g2, g3, g4, g5⟩ := argsAt_nio R q (by simpa using en) hl
          exact ⟨j + 1, i', l0, by simpa using g1, g2, g3, by rw [g4]; congr 2; omega, by rw [g5]; congr 1; omega⟩
    · cases e
theorem argsAt_src [Pn] (R : Rel K G ρ F σ H) {as : List AV} {args : List Lc} {is : List Nat} (e : argsAt ρ as 0 = some (args, is)) {k : Nat} {b : Addr} (h : (k, b) ∈ nioOf args) : ∃ (i : Nat) (l0 : Lc) (xs : List PD), is[k]? = some i ∧ ρ[i]? = some (some l0) ∧ l0.own = true ∧ (b, xs) ∈ l0.fp := by
  obtain ⟨n, l, xs, e1, e2, e3⟩ := nioOf_mem h
  obtain ⟨j, i, l0, g1, g2, g3, g4, g5⟩ := argsAt_nio R e e1 (by intro z; rw [z] at e3; cases e3)
  rw [e2] at g5
  have : k = 0 + j := Option.some.inj g5
  have : k = j := by omega
  subst this
  exact ⟨i, l0, xs, g1, g2, g3, by rw [g4, Lc.retag_fp] at e3; exact e3⟩
theorem Rel.call [Pn] (R : Rel K G ρ F σ H) {is : List Nat} {post ios : List Addr} {nio : List (Nat × Addr)} {r : Lc} {outs : List Lc} (hl : post.length = is.length) (hn : is.Nodup)
    (h : ∀ (j i : Nat), is[j]? = some i → ∃ a l, post[j]? = some a ∧ σ[i]? = some (some (.ref a)) ∧ ρ[i]? = some (some l) ∧ l.own = true)
    (hpre : ∃ rest, ios = post ++ rest ∧ ∀ b ∈ rest, ∃ k, (k, b) ∈ nio) (hnio : ∀ k b, (k, b) ∈ nio → ∃ (i : Nat) (l0 : Lc) (xs : List PD), is[k]? = some i ∧ ρ[i]? = some (some l0) ∧ l0.own = true ∧ (b, xs) ∈ l0.fp) (P0 : Post K F H ios is.length nio r outs v F' H') :
    Rel K G (putO ρ ρ is outs) F' σ H' ∧ RsOk K G F' H' (putO ρ ρ is outs) σ r v := by
  obtain ⟨rest, eios, hrest⟩ := hpre
  have P := P0
  have hlo : outs.length = is.length := P.ol
  -- an own list within, behind the call
  have inr : ∀ {b : Addr}, b ∈ rest → ∃ (i k : Nat) (l0 : Lc) (xs : List PD), is[k]? = some i ∧ ρ[i]? = some (some l0) ∧ l0.own = true ∧ (b, xs) ∈ l0.fp := fun {b} hb => by
    obtain ⟨k, hk⟩ := hrest b hb
    obtain ⟨i, l0, xs, z⟩ := hnio k b hk
    exact ⟨i, k, l0, xs, z⟩
  -- a slot behind the call
  have slot : ∀ {j : Nat} {l : Lc}, (putO ρ ρ is outs)[j]? = some (some l) → (j ∉ is ∧ ρ[j]? = some (some l)) ∨
      ∃ (k : Nat) (m l0 : Lc) (a : Addr) (o : HO), is[k]? = some j ∧ l = m.retag l0.tag ∧ ρ[j]? = some (some l0) ∧ l0.own = true ∧ σ[j]? = some (some (.ref a)) ∧ post[k]? = some a ∧ F' a = none ∧ H' a = some o ∧ HoOk K F' m o ∧ outs[k]? = some m := fun {j l} e => by
    rcases putO_get hn hlo e with q | ⟨k, m, q1, q2, q3⟩
    · exact .inl q
    · obtain ⟨a, l0, p1, p2, p3, p4⟩ := h k j q1
      obtain ⟨a', o, z1, z2, z3, z4, z5⟩ := P.ou k m q2
      rw [eios, List.getElem?_append_left (by have := (List.getElem?_eq_some_iff.mp p1).1; exact this), p1] at z1
      have : a = a' := by simpa using z1
      subst this
      have et : tagAt ρ j = l0.tag := by unfold tagAt; rw [p3]
      rw [et] at q3
      exact .inr ⟨k, m, l0, a, o, q1, q3, p3, p4, p2, p1, z2, z3, z4, q2⟩
  have old : ∀ {j : Nat} {l : Lc}, (putO ρ ρ is outs)[j]? = some (some l) → l.own = true → ∃ l0, ρ[j]? = some (some l0) ∧ l0.own = true := fun {j l} e ho => by
    rcases slot e with ⟨_, q⟩ | ⟨k, m, l0, a, o, _, _, q, q2, _⟩
    · exact ⟨l, q, ho⟩
    · exact ⟨l0, q, q2⟩
  have keep : ∀ {j : Nat} {l : Lc} {b : Addr}, j ∉ is → ρ[j]? = some (some l) → l.own = true → σ[j]? = some (some (.ref b)) → b ∉ post := fun {j l b} hj e ho es hb => by
    obtain ⟨k, hk, ek⟩ := List.getElem_of_mem hb
    obtain ⟨a, l', p1, p2, p3, p4⟩ := h k is[k] (List.getElem?_eq_getElem (by omega))
    rw [List.getElem?_eq_getElem hk, ek] at p1
    have : b = a := by simpa using p1
    subst this
    have := R.ds j is[k] l l' _ e p3 ho p4 es p2
    exact hj (by rw [this]; exact List.getElem_mem _)
  have keep2 : ∀ {j : Nat} {l : Lc} {b : Addr}, j ∉ is → ρ[j]? = some (some l) → l.own = true → σ[j]? = some (some (.ref b)) → b ∉ ios := fun {j l b} hj e ho es hb => by
    rw [eios] at hb
    rcases List.mem_append.mp hb with hb | hb
    · exact keep hj e ho es hb
    · obtain ⟨i, k, l0, xs, _, g2, _, g4⟩ := inr hb
      exact ((R.ns i l0 b xs g2 g4).2 j l e).1 ho es
  have ioA : ∀ {a : Addr}, a ∈ post → ∃ (l : Lc) (j : Nat), ρ[j]? = some (some l) ∧ l.own = true ∧ σ[j]? = some (some (.ref a)) ∧ At K G F H l a := fun {a} ha => by
    obtain ⟨k, hk, ek⟩ := List.getElem_of_mem ha
    obtain ⟨b, l', p1, p2, p3, p4⟩ := h k is[k] (List.getElem?_eq_getElem (by omega))
    rw [List.getElem?_eq_getElem hk, ek] at p1
    have : a = b := by simpa using p1
    subst this
    obtain ⟨c, es, z⟩ := R.at_ p3 p4
    rw [p2] at es
    have : a = c := by simpa using es
    subst this
    exact ⟨l', is[k], p3, p4, p2, z⟩
  have R' : Rel K G (putO ρ ρ is outs) F' σ H' := by
    refine ⟨P.fh, R.ff.trans P.ff, fun b o e hb => ?_, fun b h1 h2 => ?_, fun a ha => ⟨?_, (R.ih a ha).2⟩, by rw [putO_length]; exact R.len, fun j l e => ?_, fun i j l m w e1 e2 h1 h2 e3 e4 => ?_, R.ok, fun i l b xs e hb => ?_⟩
    · refine P.fr b o (R.fr b o e hb) fun hm => ?_
      rw [eios] at hm
      rcases List.mem_append.mp hm with hm | hm
      · obtain ⟨l, j, _, _, _, z⟩ := ioA hm
        have ow := z.ow
        cases q : l.tag with
        | none => rw [q] at ow; have ow : G.H0 b = none := ow; rw [e] at ow; cases ow
        | some k => rw [q] at ow; exact hb (List.mem_of_getElem? ow)
      · obtain ⟨i, k, l0, xs, _, g2, _, g4⟩ := inr hm
        rcases (R.ns i l0 b xs g2 g4).1.ow with w | w
        · rw [e] at w; cases w
        · obtain ⟨_, _, _, w⟩ := w; exact hb w
    · cases e : F b with
      | none =>
        rcases P.nw b h1 e with z | z
        · exact .inl (R.h0 z)
        · exact .inr z
      | some u =>
        rcases R.nw b (by rw [e]; simp) h2 with z | ⟨us, z⟩
        · exact .inl z
        · exact .inr ⟨us, P.ff _ _ z⟩
    · by_cases hm : a ∈ ios
      · exact P.hx a hm
      · cases e : H a with
        | none => exact absurd e (R.ih a ha).1
        | some u => rw [P.fr a u e hm]; simp
    · rcases slot e with ⟨hj, q⟩ | ⟨k, m, l0, a, o, q1, rfl, q3, q4, q5, q6, q7, q8, q9, _⟩
      · have z := R.sl j l q
        cases hl0 : l.own with
        | true =>
          rw [own_slot hl0] at z ⊢
          obtain ⟨b, eb, z⟩ := z
          obtain ⟨nf, ow, ob, eo, ok⟩ := z
          refine ⟨b, eb, ?_, ow, ob, P.fr b ob eo (keep2 hj q hl0 eb), ok.mono P.ff⟩
          cases w : F' b with
          | none => rfl
          | some u =>
            rcases P.nw b (by rw [w]; simp) nf with this | ⟨us, this⟩
            · rw [eo] at this; cases this
            · have this := P.fh _ _ this
              rw [P.fr b ob eo (keep2 hj q hl0 eb)] at this
              cases this
              cases l <;> exact False.elim ok
        | false =>
          rcases not_own hl0 with ⟨x, rfl⟩ | ⟨w, rfl⟩
          · obtain ⟨w, ew, d⟩ := z; exact ⟨w, ew, d.mono P.ff⟩
          · obtain ⟨w, ew, d⟩ := z; exact ⟨w, ew, d.mono P.ff⟩
      · rw [own_slot (by rw [Lc.retag_own]; exact q9.own)]
        obtain ⟨b, eb, z⟩ := R.at_ q3 q4
        rw [q5] at eb
        have : a = b := by simpa using eb
        subst this
        exact ⟨a, q5, q7, by rw [Lc.retag_tag _ _ q9.own]; exact z.ow, o, q8, q9.retag _⟩
    · obtain ⟨l0, p1, p2⟩ := old e1 h1
      obtain ⟨m0, p3, p4⟩ := old e2 h2
      exact R.ds i j l0 m0 w p1 p3 p2 p4 e3 e4
    · have own1 : ∀ {j : Nat} {m : Lc}, (putO ρ ρ is outs)[j]? = some (some m) → m.own = true → ∃ l0, ρ[j]? = some (some l0) ∧ l0.own = true := old
      rcases slot e with ⟨hi, q⟩ | ⟨k, m, l0, a, o, q1, rfl, q3, q4, q5, q6, q7, q8, q9, q10⟩
      · obtain ⟨⟨z1, z2, vs, z3, z4⟩, w⟩ := R.ns i l b xs q hb
        have nb : b ∉ ios := fun hm => by
          rw [eios] at hm
          rcases List.mem_append.mp hm with hm | hm
          · obtain ⟨l2, j2, g1, g2, g3, _⟩ := ioA hm
            exact (w j2 l2 g1).1 g2 g3
          · obtain ⟨i2, k2, l2, xs2, g1, g2, g3, g4⟩ := inr hm
            have := (w i2 l2 g2).2 xs2 g4
            exact hi (by rw [← this]; exact List.mem_of_getElem? g1)
        have hb' := P.fr b _ z3 nb
        refine ⟨⟨?_, z2, vs, hb', z4.mono P.ff⟩, fun j m2 e2 => ?_⟩
        · cases w2 : F' b with
          | none => rfl
          | some u =>
            rcases P.nw b (by rw [w2]; simp) z1 with this | ⟨us, this⟩
            · rw [z3] at this; cases this
            · have this := P.fh _ _ this
              rw [hb'] at this; cases this
        · rcases slot e2 with ⟨_, q2⟩ | ⟨k2, m2, l2, a2, o2, p1, rfl, p3, p4, p5, p6, p7, p8, p9, p10⟩
          · exact w j m2 q2
          · refine ⟨fun _ => (w j l2 p3).1 p4, fun ys hy => ?_⟩
            rw [Lc.retag_fp] at hy
            rcases (P.on k2 m2 b ys p10 hy).1.2.1 with g | g
            · rw [z3] at g; cases g
            · obtain ⟨i3, l3, xs3, g1, g2, _, g4⟩ := hnio _ _ g
              rw [p1] at g1
              have : j = i3 := by simpa using g1
              subst this
              exact (w j l3 g2).2 xs3 g4
      · rw [Lc.retag_fp] at hb
        obtain ⟨⟨f1, f2, f3⟩, f5, f6⟩ := P.on k m b xs q10 hb
        have src : H b = none ∨ ∃ xs3, (b, xs3) ∈ l0.fp := by
          rcases f2 with f2 | f2
          · exact .inl f2
          · obtain ⟨i3, l3, xs3, g1, g2, _, g4⟩ := hnio _ _ f2
            rw [q1] at g1
            have : i = i3 := by simpa using g1
            subst this
            rw [q3] at g2
            have : l0 = l3 := by simpa using g2
            subst this
            exact .inr ⟨xs3, g4⟩
        refine ⟨⟨f1, ?_, f3⟩, fun j m2 e2 => ?_⟩
        · rw [Lc.retag_tag _ _ q9.own]
          rcases src with g | ⟨xs3, g⟩
          · exact .inl (R.h0 g)
          · exact (R.ns i l0 b xs3 q3 g).1.ow
        · rcases slot e2 with ⟨_, q2⟩ | ⟨k2, m2, l2, a2, o2, p1, rfl, p3, p4, p5, p6, p7, p8, p9, p10⟩
          · rcases src with g | ⟨xs3, g⟩
            · exact ⟨R.noS_free g j m2 q2, fun ys hy => absurd hy (R.noN_free g j m2 ys q2)⟩
            · exact (R.ns i l0 b xs3 q3 g).2 j m2 q2
          · refine ⟨fun _ z => ?_, fun ys hy => ?_⟩
            · rw [p5] at z
              have : a2 = b := by simpa using z
              have hk2 := (List.getElem?_eq_some_iff.mp p6).1
              refine f5 k2 (by omega) ?_
              rw [eios, List.getElem?_append_left hk2, p6, this]
            · rw [Lc.retag_fp] at hy
              have := f6 k2 m2 ys p10 hy
              subst this
              rw [q1] at p1
              simpa using p1.symm
  refine ⟨R', ?_⟩
  have own : r.own = true → RsOk K G F' H' (putO ρ ρ is outs) σ r v := fun ho => by
    have z : ∃ a o, v = .ref a ∧ H a = none ∧ F' a = none ∧ H' a = some o ∧ HoOk K F' r o ∧ r.tag = none := by
      have := P.rs
      cases r <;> first | (simp [Lc.own] at ho; done) | exact this
    obtain ⟨a, o, e1, e2, e3, e4, e5, e6⟩ := z
    rw [RsOk.ref_own ho]
    have nos : ∀ {b : Addr}, H b = none → NoS (putO ρ ρ is outs) σ b := fun {b} g j m e hm => by
      obtain ⟨l0, p1, p2⟩ := old e hm
      exact R.noS_free g j l0 p1 p2
    have non : ∀ {b : Addr}, H b = none → (∀ (k : Nat) (m : Lc) (ys : List PD), outs[k]? = some m → (b, ys) ∉ m.fp) → NoN (putO ρ ρ is outs) b := fun {b} g g2 j m ys e hy => by
      rcases slot e with ⟨_, q⟩ | ⟨k, m, l0, a, o, q1, rfl, q3, q4, q5, q6, q7, q8, q9, q10⟩
      · exact R.noN_free g j m ys q hy
      · rw [Lc.retag_fp] at hy
        exact g2 k m ys q10 hy
    refine ⟨a, e1, e6, ⟨e3, by rw [e6]; exact R.h0 e2, o, e4, e5⟩, ⟨nos e2, non e2 (P.ra a ho e1), fun b xs hb => ?_⟩⟩
    obtain ⟨⟨f1, f2, f3⟩, f4, f5⟩ := P.rn b xs hb
    exact ⟨⟨f1, .inl (R.h0 f2), f3⟩, by rw [← e1]; exact f4, nos f2, non f2 f5⟩
  cases r with
  | d x => exact P.rs
  | sc u => exact P.rs
  | _ => exact own rfl
variable {k : Nat} {f : Addr} {fd : FuncData} {ps : List Str} {n : Str} {p : Pos} {tt : TAd} {S : FSpec}
theorem callIo [Pn] {ρ1 : En} {F1 H1 : Hp} {as : List AV} {vs : List V} {args : List Lc} {is : List Nat} (R1 : Rel K G ρ1 F1 σ H1) (av : AvA K F1 σ as vs) (ea : argsAt ρ1 as 0 = some (args, is)) (hn : is.Nodup) :
    ∃ ios, ArgsOk K F1 H1 ios args vs ∧ IoOk H1 ios is.length args ∧ ∀ {r : Lc} {outs : List Lc} {v : V} {F' H' : Hp}, Post K F1 H1 ios is.length (nioOf args) r outs v F' H' → Rel K G (putO ρ1 ρ1 is outs) F' σ H' ∧ RsOk K G F' H' (putO ρ1 ρ1 is outs) σ r v := by
  obtain ⟨post, p1, p2, p3, p4⟩ := argsAt_ok R1 av ea [] rfl
  obtain ⟨rest, rn, rm⟩ := dedup ((nioOf args).map (·.2))
  have rk : ∀ b, b ∈ rest → ∃ k, (k, b) ∈ nioOf args := fun b hb => by
    obtain ⟨q, hq, e⟩ := List.mem_map.mp ((rm b).mp hb)
    exact ⟨q.1, by rw [← e]; exact hq⟩
  have src := fun (k : Nat) (b : Addr) (z : (k, b) ∈ nioOf args) => argsAt_src R1 ea z
  have pa : ∀ a ∈ post, ∃ (j : Nat) (l : Lc), ρ1[j]? = some (some l) ∧ l.own = true ∧ σ[j]? = some (some (.ref a)) := fun a ha => by
    obtain ⟨j, hj, ej⟩ := List.getElem_of_mem ha
    obtain ⟨b, l, z1, z2, z3, z4⟩ := p2 j is[j] (List.getElem?_eq_getElem (by omega))
    rw [List.getElem?_eq_getElem hj, ej] at z1
    have : a = b := by simpa using z1
    subst this
    exact ⟨_, l, z3, z4, z2⟩
  have io : IoOk H1 (post ++ rest) is.length args := by
    refine ⟨List.nodup_append.mpr ⟨nodup_post R1 p1 p2 hn, rn, fun a ha b hb e => ?_⟩, fun a ha => ?_, by rw [p4, List.range_eq_range'], by rw [List.length_append]; omega, fun k b hb => ?_, fun i j l m b xs ys e1 e2 h1 h2 => ?_⟩
    · subst e
      obtain ⟨j, l, g1, g2, g3⟩ := pa a ha
      obtain ⟨k, hk⟩ := rk a hb
      obtain ⟨i, l0, xs, _, q2, _, q4⟩ := src k a hk
      exact ((R1.ns i l0 a xs q2 q4).2 j l g1).1 g2 g3
    · rcases List.mem_append.mp ha with ha | ha
      · obtain ⟨j, l, g1, g2, g3⟩ := pa a ha
        obtain ⟨b, eb, _, _, ob, eo, _⟩ := R1.at_ g1 g2
        rw [g3] at eb
        have : a = b := by simpa using eb
        subst this
        rw [eo]; simp
      · obtain ⟨k, hk⟩ := rk a ha
        obtain ⟨i, l0, xs, _, q2, _, q4⟩ := src k a hk
        obtain ⟨vs, e, _⟩ := (R1.ns i l0 a xs q2 q4).1.ob
        rw [e]; simp
    · rw [← p1, List.drop_left]
      exact (rm b).mpr (List.mem_map.mpr ⟨(k, b), hb, rfl⟩)
    · obtain ⟨j1, i1, l1, q1, q2, q3, q4, q5⟩ := argsAt_nio R1 ea e1 (by intro z; rw [z] at h1; cases h1)
      obtain ⟨j2, i2, l2, g1, g2, g3, g4, g5⟩ := argsAt_nio R1 ea e2 (by intro z; rw [z] at h2; cases h2)
      have h1' : (b, xs) ∈ l1.fp := by rw [q4, Lc.retag_fp] at h1; exact h1
      have h2' : (b, ys) ∈ l2.fp := by rw [g4, Lc.retag_fp] at h2; exact h2
      have e3 : i2 = i1 := ((R1.ns i1 l1 b xs q2 h1').2 i2 l2 g2).2 ys h2'
      subst e3
      obtain ⟨hj1, ej1⟩ := List.getElem?_eq_some_iff.mp q1
      obtain ⟨hj2, ej2⟩ := List.getElem?_eq_some_iff.mp g1
      have e4 : j1 = j2 := (List.getElem_inj hn).mp (ej1.trans ej2.symm)
      subst e4
      exact tags_inj (by rw [p4]; exact List.nodup_range') e1 e2 q5 g5
  exact ⟨post ++ rest, p3.more, io, fun P => R1.call p1 hn p2 ⟨rest, rfl, rk⟩ src P⟩
theorem tCall_of [Pn] {m : Nat} {Q : VK} (h : liftF K (fCall S tt) σ H Q) : tCall (liftC K S) [] E0 (liftA K m tt) σ H Q := by
  obtain ⟨G, ρ, F, Q', R, q, c⟩ := h
  refine ⟨G, ρ, F, _, R, q, fun as ρ1 vs H1 F1 h1 hl R1 s1 av => ?_⟩
  split at h1
  · rename_i args is ea
    obtain ⟨hn, h1⟩ := h1
    have hn := nodup_of hn
    obtain ⟨ios, p3, io, back⟩ := callIo R1 av ea hn
    rw [List.append_nil]
    refine ⟨args, F1, ios, is.length, _, R1.fh, p3, io, h1, fun r outs v F' H' q' P => ?_⟩
    obtain ⟨R2, r2⟩ := back P
    have q2 := q'
    change putF _ _ _ _ _ at q2
    rw [putF_eq] at q2
    exact c _ _ _ _ _ q2 R2 (s1.trans P.ff) r2
  · exact False.elim h1
def outsAt (ρ : En) : List Nat → Nat → Option (List Lc)
  | [], _ => some []
  | i :: is, k => match ρ[i]? with
    | some (some l) => if (l.own && l.tag == some k) = true then (outsAt ρ is (k + 1)).map (l :: ·) else none
    | _ => none
def ioSlots : List Lc → Nat → List Nat
  | [], _ => []
  | l :: r, i => if l.tag.isSome = true then i :: ioSlots r (i + 1) else ioSlots r (i + 1)
def retOk (args : List Lc) (Q : Lc → List Lc → Prop) (r : Lc) (ρ : En) : Prop := match outsAt ρ (ioSlots args 0) 0 with
  | some outs => (match r with
    | .d x => Q (.d x) outs
    | l => Q l outs ∨ (l.fz = true ∧ Q (.d l.pd) outs))
  | none => False
def endsOf (args : List Lc) (Q : Lc → List Lc → Prop) : DE := { nx := retOk args Q (.d .none), rt := retOk args Q }
def rho0 (N : List Str) (args : List Lc) : En := args.map some ++ List.replicate (N.length - args.length) none
theorem outsAt_ok [Pn] (R : Rel K G ρ F σ H) : ∀ {is : List Nat} {k : Nat} {outs : List Lc}, outsAt ρ is k = some outs → outs.length = is.length ∧ ∀ (j : Nat) (l : Lc), outs[j]? = some l → ∃ a o, G.io[k + j]? = some a ∧ F a = none ∧ H a = some o ∧ HoOk K F l o ∧ l.tag = some (k + j)
  | [], k, outs, e => by
    have e : some ([] : List Lc) = some outs := e
    cases e
    exact ⟨rfl, fun j l z => by simp at z⟩
  | i :: is, k, outs, e => by
    unfold outsAt at e
    split at e
    · rename_i l er
      split at e
      · rename_i hz
        rw [Bool.and_eq_true] at hz
        have ht : l.tag = some k := by simpa using hz.2
        cases q : outsAt ρ is (k + 1) with
        | none => rw [q] at e; cases e
        | some os =>
          rw [q] at e; cases e
          obtain ⟨h1, h2⟩ := outsAt_ok R q
          refine ⟨by rw [List.length_cons, List.length_cons, h1], fun j m em => ?_⟩
          cases j with
          | zero =>
            simp at em; subst em
            obtain ⟨a, es, nf, ow, o, eo, ok⟩ := R.at_ er hz.1
            rw [ht] at ow
            exact ⟨a, o, ow, nf, eo, ok, ht⟩
          | succ j =>
            obtain ⟨a, o, z⟩ := h2 j m (by simpa using em)
            have ek : k + (j + 1) = k + 1 + j := by omega
            rw [ek]; exact ⟨a, o, z⟩
      · cases e
    · cases e
theorem ioSlots_length : ∀ (args : List Lc) (i : Nat), (ioSlots args i).length = (tags args).length
  | [], _ => rfl
  | l :: r, i => by
    unfold ioSlots tags
    rw [List.filterMap_cons]
    cases q : l.tag with
    | none => simp only [Option.isSome, Bool.false_eq_true, if_false]; exact ioSlots_length r (i + 1)
    | some k => simp only [Option.isSome, if_true]; rw [List.length_cons, List.length_cons]; exact congrArg (· + 1) (ioSlots_length r (i + 1))
theorem ArgsOk.get {ios : List Addr} : ∀ {ls : List Lc} {vs : List V}, ArgsOk K F H ios ls vs → ∀ {i : Nat} {l : Lc}, ls[i]? = some l → ∃ v, vs[i]? = some v ∧ ArgOk K F H ios l v
  | _, _, .nil, i, l, e => by simp at e
  | _, _, .cons a t, i, l, e => by
    cases i with
    | zero => simp at e; subst e; exact ⟨_, rfl, a⟩
    | succ i => obtain ⟨v, h1, h2⟩ := ArgsOk.get t (i := i) (by simpa using e); exact ⟨v, by simpa using h1, h2⟩
theorem argOk_own {ios : List Addr} {l : Lc} (ho : l.own = true) : ArgOk K F H ios l v ↔ ∃ a k, v = .ref a ∧ l.tag = some k ∧ ios[k]? = some a ∧ F a = none ∧ (∃ o, H a = some o ∧ HoOk K F l o) ∧ ∀ b xs, (b, xs) ∈ l.fp → F b = none ∧ ∃ vs, H b = some (.lst vs) ∧ DfA K F vs xs := by
  cases l <;> first | exact Iff.rfl | (simp [Lc.own] at ho)
theorem Rel.start [Pn] {N : List Str} {ios : List Addr} {n : Nat} {args : List Lc} {vs : List V} (ok : Pn.P ⟨H, F, ios, nioOf args⟩) (s : Same F H) (a : ArgsOk K F H ios args vs) (io : IoOk H ios n args) : Rel K ⟨H, F, ios, nioOf args⟩ (rho0 N args) F (L2.start N vs) H := by
  have hn := io.nd
  have hH := io.ex
  have ht := io.tg
  have hl := a.length
  have get : ∀ {i : Nat} {l : Lc}, (rho0 N args)[i]? = some (some l) → args[i]? = some l := fun {i l} e => by
    unfold rho0 at e
    by_cases hi : i < args.length
    · rw [List.getElem?_append_left (by simpa using hi), List.getElem?_map] at e
      cases q : args[i]? with
      | none => rw [q] at e; simp at e
      | some m => rw [q] at e; simpa using e
    · rw [List.getElem?_append_right (by simpa using Nat.le_of_not_lt hi)] at e
      have := List.mem_of_getElem? e
      rw [List.mem_replicate] at this
      cases this.2
  have getv : ∀ {i : Nat} {v : V}, vs[i]? = some v → (L2.start N vs)[i]? = some (some v) := fun {i v} e => by
    unfold L2.start
    have hi := (List.getElem?_eq_some_iff.mp e).1
    rw [List.getElem?_append_left (by simpa using hi), List.getElem?_map, e]; rfl
  refine ⟨s, Same.refl _, fun b o e _ => e, fun b h1 h2 => absurd h2 h1, fun a ha => ⟨hH a ha, hH a ha⟩, ?_, fun i l e => ?_, fun i j l m v e1 e2 h1 h2 e3 e4 => ?_, ok, fun i l b xs e hb => ?_⟩
  · unfold L2.start rho0
    simp only [List.length_append, List.length_map, List.length_replicate]; rw [hl]
  · obtain ⟨v, ev, av⟩ := a.get (get e)
    rw [getv ev]
    cases ho : l.own with
    | true =>
      rw [own_slot ho]
      rw [argOk_own ho] at av
      obtain ⟨b, k, e1, e2, e3, e4, ⟨o, e5, e6⟩, _⟩ := av
      exact ⟨b, by rw [e1], e4, by rw [e2]; exact e3, o, e5, e6⟩
    | false =>
      rcases not_own ho with ⟨x, rfl⟩ | ⟨w, rfl⟩
      · exact ⟨v, rfl, av⟩
      · exact ⟨v, rfl, av⟩
  · obtain ⟨v1, ev1, av1⟩ := a.get (get e1)
    obtain ⟨v2, ev2, av2⟩ := a.get (get e2)
    rw [argOk_own h1] at av1
    rw [argOk_own h2] at av2
    obtain ⟨b, k, a1, a2, a3, _⟩ := av1
    obtain ⟨b', k', c1, c2, c3, _⟩ := av2
    rw [getv ev1] at e3
    rw [getv ev2] at e4
    have f1 : v1 = v := by simpa using e3
    have f2 : v2 = v := by simpa using e4
    have bb : b = b' := by rw [f1, ← f2, c1] at a1; exact (V.ref.inj a1).symm
    subst bb
    obtain ⟨hk, ek⟩ := List.getElem?_eq_some_iff.mp a3
    obtain ⟨hk', ek'⟩ := List.getElem?_eq_some_iff.mp c3
    have kk : k = k' := (List.getElem_inj hn).mp (ek.trans ek'.symm)
    subst kk
    exact tags_inj (by rw [ht]; exact List.nodup_range) (get e1) (get e2) a2 c2
  · have ho : l.own = true := by
      cases q : l.own with
      | true => rfl
      | false => rw [Lc.fp_own q] at hb; cases hb
    obtain ⟨v, ev, av⟩ := a.get (get e)
    rw [argOk_own ho] at av
    obtain ⟨c, k, e1, e2, e3, e4, _, w⟩ := av
    obtain ⟨w1, w2⟩ := w b xs hb
    have hin := nioOf_in (get e) e2 hb
    have hdr := io.nx k b hin
    refine ⟨⟨w1, .inr ⟨k, e2, hin, List.mem_of_mem_drop hdr⟩, w2⟩, fun j m em => ⟨fun hm z => ?_, fun ys hy => (io.dj i j l m b xs ys (get e) (get em) hb hy).symm⟩⟩
    obtain ⟨v2, ev2, av2⟩ := a.get (get em)
    rw [argOk_own hm] at av2
    obtain ⟨c2, k2, f1, f2, f3, _⟩ := av2
    rw [getv ev2, f1] at z
    have : c2 = b := by simpa using z
    refine drop_ne hn hdr ?_ f3 this
    have : k2 ∈ tags args := List.mem_filterMap.mpr ⟨m, List.mem_of_getElem? (get em), f2⟩
    rw [ht] at this
    exact List.mem_range.mp this
theorem nio_ds {xs : List PD} {k : Nat} {b : Addr} (h : (k, b) ∈ nioOf (xs.map Lc.d)) : False := by
  obtain ⟨i, l, ys, e1, _, e3⟩ := nioOf_mem h
  rw [List.getElem?_map] at e1
  obtain ⟨x, _, rfl⟩ := Option.map_eq_some_iff.mp e1
  cases e3
theorem tags_ds (xs : List PD) : tags (xs.map Lc.d) = [] := by
  induction xs with
  | nil => rfl
  | cons x r ih => exact ih
theorem IoOk.ds (xs : List PD) : IoOk H [] 0 (xs.map Lc.d) := ⟨List.nodup_nil, fun a h => (by cases h), tags_ds xs, Nat.le_refl _, fun k b z => (nio_ds z).elim, fun i j l m b zs ys e1 _ h1 _ => by
  rw [List.getElem?_map] at e1
  obtain ⟨x, _, rfl⟩ := Option.map_eq_some_iff.mp e1
  cases h1⟩
theorem outsAt_slot {ρ : En} : ∀ {is : List Nat} {k : Nat} {outs : List Lc}, outsAt ρ is k = some outs → ∀ {j : Nat} {l : Lc}, outs[j]? = some l → ∃ i, is[j]? = some i ∧ ρ[i]? = some (some l) ∧ l.own = true ∧ l.tag = some (k + j)
  | [], k, outs, e, j, l, z => by
    have e : some ([] : List Lc) = some outs := e
    cases e
    simp at z
  | i :: is, k, outs, e, j, l, z => by
    unfold outsAt at e
    split at e
    · rename_i l0 er
      split at e
      · rename_i hz
        rw [Bool.and_eq_true] at hz
        have ht : l0.tag = some k := by simpa using hz.2
        cases q : outsAt ρ is (k + 1) with
        | none => rw [q] at e; cases e
        | some os =>
          rw [q] at e; cases e
          cases j with
          | zero => simp at z; subst z; exact ⟨i, rfl, er, hz.1, ht⟩
          | succ j =>
            obtain ⟨i', g1, g2, g3, g4⟩ := outsAt_slot q (j := j) (by simpa using z)
            exact ⟨i', by simpa using g1, g2, g3, by rw [g4]; congr 1; omega⟩
      · cases e
    · cases e
theorem end_post [Pn] {ρ : En} {σ : L2.St} {F0 H0 : Hp} {ios : List Addr} {n : Nat} {args : List Lc} {outs : List Lc} {l : Lc} {v : V} (ht : tags args = List.range n) (eo : outsAt ρ (ioSlots args 0) 0 = some outs) (R2 : Rel K ⟨H0, F0, ios, nioOf args⟩ ρ F σ H)
    (r2 : RsOk K ⟨H0, F0, ios, nioOf args⟩ F H ρ σ l v) : Post K F0 H0 ios n (nioOf args) l outs v F H := by
  obtain ⟨o1, o3⟩ := outsAt_ok R2 eo
  have ol : outs.length = n := by rw [o1, ioSlots_length, ht, List.length_range]
  refine ⟨R2.ff, R2.fh, R2.fr, R2.nw, ol, fun k m em => ?_, fun a ha => (R2.ih a ha).1, fun k m b xs em hb => ?_, ?_, fun b xs hb => ?_, fun a ho ev k m ys em hy => ?_⟩
  · obtain ⟨a, o, z⟩ := o3 k m em
    rw [Nat.zero_add] at z
    exact ⟨a, o, z⟩
  · obtain ⟨i, _, g2, g3, g4⟩ := outsAt_slot eo em
    rw [Nat.zero_add] at g4
    obtain ⟨⟨z1, z2, z3⟩, w⟩ := R2.ns i m b xs g2 hb
    refine ⟨⟨z1, ?_, z3⟩, fun k' hk' e => ?_, fun k' m' ys em' hy => ?_⟩
    · rcases z2 with z2 | ⟨k2, e2, h2, _⟩
      · exact .inl z2
      · rw [g4] at e2
        cases e2
        exact .inr h2
    · obtain ⟨m', em'⟩ : ∃ m', outs[k']? = some m' := ⟨outs[k']'(by omega), List.getElem?_eq_getElem _⟩
      obtain ⟨i', _, g2', g3', g4'⟩ := outsAt_slot eo em'
      rw [Nat.zero_add] at g4'
      obtain ⟨a, es, at_⟩ := R2.at_ g2' g3'
      have ow := at_.ow
      rw [g4'] at ow
      have ow : ios[k']? = some a := ow
      rw [e] at ow
      have : b = a := by simpa using ow
      subst this
      exact (w i' m' g2').1 g3' es
    · obtain ⟨i', _, g2', g3', g4'⟩ := outsAt_slot eo em'
      rw [Nat.zero_add] at g4'
      have := (w i' m' g2').2 ys hy
      subst this
      rw [g2] at g2'
      have : m = m' := by simpa using g2'
      subst this
      rw [g4] at g4'
      exact (Option.some.inj g4').symm
  · cases l with
    | d x => exact r2
    | sc u => exact r2
    | ls p xs => obtain ⟨a, e1, e2, ⟨nf, ow, o, eo, ok⟩, _⟩ := r2; rw [e2] at ow; exact ⟨a, o, e1, ow, nf, eo, ok, e2⟩
    | dk p xs => obtain ⟨a, e1, e2, ⟨nf, ow, o, eo, ok⟩, _⟩ := r2; rw [e2] at ow; exact ⟨a, o, e1, ow, nf, eo, ok, e2⟩
    | dt p xs => obtain ⟨a, e1, e2, ⟨nf, ow, o, eo, ok⟩, _⟩ := r2; rw [e2] at ow; exact ⟨a, o, e1, ow, nf, eo, ok, e2⟩
    | ob p C xs => obtain ⟨a, e1, e2, ⟨nf, ow, o, eo, ok⟩, _⟩ := r2; rw [e2] at ow; exact ⟨a, o, e1, ow, nf, eo, ok, e2⟩
    | nb p C xs ns => obtain ⟨a, e1, e2, ⟨nf, ow, o, eo, ok⟩, _⟩ := r2; rw [e2] at ow; exact ⟨a, o, e1, ow, nf, eo, ok, e2⟩
    | ln p xs => obtain ⟨a, e1, e2, ⟨nf, ow, o, eo, ok⟩, _⟩ := r2; rw [e2] at ow; exact ⟨a, o, e1, ow, nf, eo, ok, e2⟩
  · have ho : l.own = true := by
      cases q : l.own with
      | true => rfl
      | false => rw [Lc.fp_own q] at hb; cases hb
    rw [RsOk.ref_own ho] at r2
    obtain ⟨a, rfl, e2, _, f⟩ := r2
    obtain ⟨⟨z1, z2, z3⟩, z4, z5, z6⟩ := f.ns b xs hb
    refine ⟨⟨z1, ?_, z3⟩, z4, fun k m ys em => ?_⟩
    · rcases z2 with z2 | ⟨k2, e3, _⟩
      · exact z2
      · rw [e2] at e3; cases e3
    · obtain ⟨i, _, g2, _⟩ := outsAt_slot eo em
      exact z6 i m ys g2
  · rw [RsOk.ref_own ho] at r2
    obtain ⟨a', ea, _, _, f⟩ := r2
    rw [ev] at ea
    cases ea
    obtain ⟨i, _, g2, _⟩ := outsAt_slot eo em
    exact f.hn i m ys g2 hy
theorem end_fin [Pn] {Q : VK} {Qd : Lc → List Lc → Prop} {ρ : En} {σ : L2.St} {F0 H0 : Hp} {ios : List Addr} {n : Nat} {args : List Lc} {l : Lc} {v : V} (ht : tags args = List.range n) (c : ∀ r outs v F' H', Qd r outs → Post K F0 H0 ios n (nioOf args) r outs v F' H' → Q v H')
    (hq : retOk args Qd l ρ) (R' : Rel K ⟨H0, F0, ios, nioOf args⟩ ρ F σ H) (r : RsOk K ⟨H0, F0, ios, nioOf args⟩ F H ρ σ l v) : Q v H := by
  unfold retOk at hq
  split at hq
  · rename_i outs eo
    have frz : (Qd l outs ∨ (l.fz = true ∧ Qd (.d l.pd) outs)) → Q v H := fun hq => by
      rcases hq with hq | ⟨hz, hq⟩
      · exact c _ _ v F H hq (end_post ht eo R' r)
      · obtain ⟨F2, R2, _, d⟩ := r.freeze R' hz
        exact c _ _ v F2 H hq (end_post (l := .d l.pd) ht eo R2 d)
    split at hq
    · exact c _ _ v F H hq (end_post ht eo R' r)
    · exact frz hq
  · exact False.elim hq
end
end DL
namespace DL
open PySem L2 PyProof.Rows
structure FnG (P : Program) (w : World) (K : PySem.W.Frag) (mg : Str → Option Value) (base : Heap) (CX : CXT) (k : Nat) (f : Addr) (fd : FuncData) (ps : List Str) (sp : Sp) : Prop where
  len : ∀ vs H Q E, sp vs H Q E → vs.length = ps.length
  run : ∀ (A : Around) (outer : List PySem.Env) (s : Shared) (H : Hp) (args : Args) (us : List Value) (vs : List V) (Q : VK) (E : XK), Room k A → A.guards = some [] → Env0 P w K mg base A outer s H → BindsTo s fd args (ps.zip us) → Vals vs us → sp vs H Q E →
    codeAny (model P w) A (.call (.ref f) args) (CR CX outer P w H s Q E) s
section
variable {P : Program} {w : World} {K : PySem.W.Frag} {mg : Str → Option Value} {base : Heap} {CX : CXT} {j k : Nat} {f : Addr} {fd : FuncData} {ps : List Str} {sp sp' : Sp} {X : Cx} {E : XK} {dvs : List V} {ds : List Value} {n : Str} {p pos : Pos} {e : Expr} {es : List Expr} {t : TA} {S : FSpec} {tt : TAd} {F H : Hp} {st : Stmt} {ρ : En}
theorem FnG.mono (h : FnG P w K mg base CX j f fd ps sp) (hk : j ≤ k) : FnG P w K mg base CX k f fd ps sp := ⟨h.len, fun A outer s H args us vs Q E hr => h.run A outer s H args us vs Q E (hr.mono hk)⟩
theorem runG {pins : List (Addr × Obj)} {σ : L2.St} {s : Shared} {Q : VK} {us : List Value} {vs : List V} (G : FnG X.prog X.w X.K X.mg X.base CX k f fd ps sp) (hr : Room k X.A) (hgd : X.A.guards = some []) (hb : Binds X.K fd ps ds) (hd : Vals dvs ds) (hx : Passes CX X E)
    (I : Inv X pins σ H s) (r : Vals vs us) (h : sp (vs ++ dvs) H Q E) : wpAny (model X.prog X.w) X.A (call (.ref f) us) (EP X pins σ Q) X.xe s := by
  have rr : Vals (vs ++ dvs) (us ++ ds) := r.append hd
  have ll : (us ++ ds).length = ps.length := rr.length.symm.trans (G.len _ _ _ _ h)
  have run := G.run X.A X.stack s H ⟨us, []⟩ (us ++ ds) (vs ++ dvs) Q E hr hgd I.env0 (hb s us I.kIn ll) rr h
  refine wpAny_call (codeAny_mono run fun res s' hq => ?_)
  rcases res with e' | fl
  · exact hx pins σ H s e' s' I hq
  · cases fl <;> first | exact I.after hq | exact False.elim hq
theorem peG (G : FnG X.prog X.w X.K X.mg X.base CX k f fd ps sp) (hr : Room k X.A) (hgd : X.A.guards = some []) (hg : Gl X n) (hm : X.mg n = some (.ref f)) (hk : PySem.W.keepIn X.K (.ref f) = true) (hb : Binds X.K fd ps ds) (hd : Vals dvs ds) (hx : Passes CX X E)
    (ha : PA X (e :: es) t) (hdb : (n == ("__debug__" : Str)) = false := by decide) (he : starEach (e :: es) X.env = (false, eval e X.env) :: starEach es X.env := by rfl) (hpl : (backTo pos (starEach es X.env)).any (·.1) = false := by rfl) :
    PE X (.Call (.Name n p) (e :: es) [] pos) (tCall sp dvs E t) :=
  ⟨fun pins s σ H Q I h => wpAny_Call_Name_kw (ld_glob I hg hm (PySem.W.callWith_K (h₀ := X.base) I.ok.mod.kin hk (thn (ha.run pos pins s σ H _ I h) fun us s1 ⟨vs, H1, I1, r, q⟩ => ⟨I1.kIn, runG G hr hgd hb hd hx I1 r q⟩) he hpl) hdb)⟩
theorem LF.call [Pn] (G : FnG X.prog X.w X.K X.mg X.base CX0 k f fd ps (liftC X.K S)) (hr : Room k X.A) (hgd : X.A.guards = some []) (hg : Gl X n) (hm : X.mg n = some (.ref f)) (hk : PySem.W.keepIn X.K (.ref f) = true) (hb : Binds X.K fd ps []) (ha : LA X (e :: es) tt)
    (hdb : (n == ("__debug__" : Str)) = false := by decide) (he : starEach (e :: es) X.env = (false, eval e X.env) :: starEach es X.env := by rfl) (hpl : (backTo pos (starEach es X.env)).any (·.1) = false := by rfl) :
    LF X (.Call (.Name n p) (e :: es) [] pos) (fCall S tt) := ⟨peImp (peG G hr hgd hg hm hk hb .nil pass0 ha.p hdb he hpl) fun σ H Q h => tCall_of h⟩
theorem fnG {name qual : Str} {params : Arguments} {body : List Stmt} {scope : Scope} {dV kV doc pm cdv ct oc : Value} {an od : Option Addr} {osl : Array (Option Value)} {N : List Str}
    (lk : K.lookup f = some ⟨oc, od, .func (PySem.W.fnOf name qual params body scope dV kV doc pm an cdv ct), osl⟩) (hcd : PySem.W.codeIn K cdv qual = true) (S : FnScope N ps scope) (len : ∀ vs H Q E, sp vs H Q E → vs.length = ps.length)
    (hbody : ∀ (A : Around) (outer : List PySem.Env) (s : Shared) (H : Hp) (vs : List V) (Q : VK) (E : XK), Room k (A.deeper (envOfC qual scope s.heap.objs.size f cdv)) → (A.deeper (envOfC qual scope s.heap.objs.size f cdv)).guards = some [] → sp vs H Q E →
      ∃ t, PSs (cxOf CX P w K mg base N qual scope f cdv A outer s H E) body t ∧ t { nx := fun _ H' => Q .non H', rt := Q } (start N vs) H) :
    FnG P w K mg base CX (k + 1) f (PySem.W.fnOf name qual params body scope dV kV doc pm an cdv ct) ps sp := by
  refine ⟨len, fun A outer s H args us vs Q E room hgd env0 bind vals want => ?_⟩
  have hl := len _ _ _ _ want
  have kin : K.In s.heap := env0.mod.kin.keeps fun b o q => (env0.bs b o q).1
  have nolim : s.heap.NoLimit := env0.mod.nolimit.keeps fun b o q => (env0.bs b o q).1
  have kinds : ∀ y ∈ ps.zip us, scope.names.lookup y.1 = some .local ∨ (scope.names.lookup y.1 = some .cell ∧ ((cellsFrom (s.heap.objs.size + 1) scope.names []).lookup y.1).isSome = true) := fun ⟨nm, v⟩ hy =>
    (S.par nm (List.of_mem_zip hy).1).elim .inl fun q => .inr ⟨q, PySem.W.cellsFrom_some _ _ _ (.inl q)⟩
  refine codeAny_call_function room.depth (kin _ _ lk) rfl S.co S.gen rfl (PySem.W.codeRec_of kin hcd) (bind _ _ _ _ (wpAny_newFunctionEnv_cells S.kind kinds fun env he s1 x => ?_))
  subst he
  refine ⟨nolim.keeps x.toInCall.keep, codeAny_func ?_⟩
  obtain ⟨t, ht, hq⟩ := hbody A outer s H vs Q E (room.deeper _) hgd want
  have inv : Inv (cxOf CX P w K mg base N qual scope f cdv A outer s H E) [] (start N vs) H s1 := inv_start S room.hd env0 hl vals x
  refine wpAny_mono (ht.run [] s1 (start N vs) H _ inv hq) (fun fl s' hs => ?_) fun _ _ z => z
  cases fl with
  | ret u => obtain ⟨v, σ', H', J, rv, q⟩ := hs; exact ⟨v, H', J.os, J.bare, J.base, J.hok, rv, q⟩
  | next => obtain ⟨σ', H', J, q⟩ := hs; exact ⟨V.non, H', J.os, J.bare, J.base, J.hok, rfl, q⟩
  | brk => obtain ⟨_, _, _, z⟩ := hs; exact False.elim z
  | cont => obtain ⟨_, _, _, z⟩ := hs; exact False.elim z
structure FunX (K : PySem.W.Frag) (x qual : Str) (st : Stmt) (f : Addr) (fd : FuncData) : Prop where
  ex : ∃ (oc : Value) (od : Option Addr) (dV kV doc pm : Value) (an : Option Addr) (cdv ct : Value) (osl : Array (Option Value)),
    fd = PySem.W.fnOf x qual (defArgs st) (defBody st) (defScope st) dV kV doc pm an cdv ct ∧ K.lookup f = some ⟨oc, od, .func fd, osl⟩ ∧ PySem.W.codeIn K cdv qual = true
theorem funX_of {x qual : Str} (Fn : Fun K x qual st f fd) : FunX K x qual st f fd := by
  obtain ⟨oc, od, kV, doc, pm, an, cdv, ct, osl, h⟩ := Fn.ex
  exact ⟨oc, od, .none, kV, doc, pm, an, cdv, ct, osl, h⟩
theorem funG {x qual : Str} {N : List Str} (Fn : FunX K x qual st f fd) (Sc : FnScope N ps (defScope st)) (len : ∀ vs H Q E, sp vs H Q E → vs.length = ps.length)
    (hbody : ∀ (cdv : Value) (A : Around) (outer : List PySem.Env) (s : Shared) (H : Hp) (vs : List V) (Q : VK) (E : XK), Room k (A.deeper (envOfC qual (defScope st) s.heap.objs.size f cdv)) → (A.deeper (envOfC qual (defScope st) s.heap.objs.size f cdv)).guards = some [] → sp vs H Q E →
      ∃ t, PSs (cxOf CX0 P w K mg base N qual (defScope st) f cdv A outer s H E).nox (defBody st) t ∧ t { nx := fun _ H' => Q .non H', rt := Q } (start N vs) H) : FnG P w K mg base CX0 (k + 1) f fd ps sp := by
  obtain ⟨oc, od, dV, kV, doc, pm, an, cdv, ct, osl, rfl, lk, hcd⟩ := Fn.ex
  refine fnG lk hcd Sc len fun A outer s H vs Q E hr hgd hsp => ?_
  obtain ⟨t, h, q⟩ := hbody cdv A outer s H vs Q E hr hgd hsp
  exact ⟨t, h.nox, q⟩
theorem def_okX {x qual : Str} {N : List Str} {ir : TSt} (Fn : FunX K x qual st f fd) (Sc : FnScope N ps (defScope st)) (len : ∀ args Q, S.sp args Q → args.length = ps.length)
    (hb : ∀ [Pn] (cdv : Value) (A : Around) (outer : List PySem.Env) (s : Shared) (H : Hp) (E : XK), Room k (A.deeper (envOfC qual (defScope st) s.heap.objs.size f cdv)) → (A.deeper (envOfC qual (defScope st) s.heap.objs.size f cdv)).guards = some [] → LSs (cxOf CX0 P w K mg base N qual (defScope st) f cdv A outer s H E).nox (defBody st) ir)
    (hsp : ∀ args Q, S.sp args Q → ir (endsOf args Q) (rho0 N args)) : FnG P w K mg base CX0 (k + 1) f fd ps (liftC K S) := by
  refine funG Fn Sc (fun vs H Q E h => ?_) fun cdv A outer s H vs Q E hr hgd h => ?_
  · obtain ⟨args, F, ios, n, Qd, _, a, _, h, _⟩ := h
    rw [← a.length]; exact len args Qd h
  · obtain ⟨args, F, ios, n, Qd, s0, a, io, h, c⟩ := h
    letI : Pn := Pn.any
    refine ⟨_, (hb cdv A outer s H E hr hgd).p, ?_⟩
    have R := Rel.start (N := N) trivial s0 a io
    exact ⟨⟨H, F, ios, nioOf args⟩, rho0 N args, F, endsOf args Qd, R, hsp args Qd h, ⟨fun ρ σ H' F' hq R' s' => end_fin (l := .d .none) (v := .non) io.tg c hq R' (show Df K F' .non .none from .non), fun l ρ v σ H' F' hq R' s' r => end_fin io.tg c hq R' r, fun _ _ _ _ z => False.elim z, fun _ _ _ _ z => False.elim z⟩⟩
theorem def_ok {x qual : Str} {N : List Str} {ir : TSt} (Fn : Fun K x qual st f fd) (Sc : FnScope N ps (defScope st)) (len : ∀ args Q, S.sp args Q → args.length = ps.length)
    (hb : ∀ [Pn] (cdv : Value) (A : Around) (outer : List PySem.Env) (s : Shared) (H : Hp) (E : XK), Room k (A.deeper (envOfC qual (defScope st) s.heap.objs.size f cdv)) → (A.deeper (envOfC qual (defScope st) s.heap.objs.size f cdv)).guards = some [] → LSs (cxOf CX0 P w K mg base N qual (defScope st) f cdv A outer s H E).nox (defBody st) ir)
    (hsp : ∀ args Q, S.sp args Q → ir (endsOf args Q) (rho0 N args)) : FnG P w K mg base CX0 (k + 1) f fd ps (liftC K S) := def_okX (funX_of Fn) Sc len hb hsp
structure Dn (K : PySem.W.Frag) (mg : Str → Option Value) (n : Str) (st : Stmt) (ps : List Str) : Prop where
  ex : ∃ f fd, Fun K n n st f fd ∧ mg n = some (.ref f) ∧ Binds K fd ps []
structure Cal (P : Program) (w : World) (K : PySem.W.Frag) (mg : Str → Option Value) (base : Heap) (k : Nat) (n : Str) (ps : List Str) (S : FSpec) : Prop where
  ex : ∃ f fd, FnG P w K mg base CX0 k f fd ps (liftC K S) ∧ mg n = some (.ref f) ∧ PySem.W.keepIn K (.ref f) = true ∧ Binds K fd ps []
theorem Cal.mono (h : Cal P w K mg base j n ps S) (hk : j ≤ k) : Cal P w K mg base k n ps S := by
  obtain ⟨f, fd, h1, h2⟩ := h.ex
  exact ⟨f, fd, h1.mono hk, h2⟩
theorem LF.cal [Pn] (C : Cal X.prog X.w X.K X.mg X.base k n ps S) (hr : Room k X.A) (hgd : X.A.guards = some []) (hg : Gl X n) (ha : LA X (e :: es) tt)
    (hdb : (n == ("__debug__" : Str)) = false := by decide) (he : starEach (e :: es) X.env = (false, eval e X.env) :: starEach es X.env := by rfl) (hpl : (backTo pos (starEach es X.env)).any (·.1) = false := by rfl) :
    LF X (.Call (.Name n p) (e :: es) [] pos) (fCall S tt) := by
  obtain ⟨f, fd, h1, h2, h3, h4⟩ := C.ex
  exact LF.call h1 hr hgd hg h2 h3 h4 ha hdb he hpl
theorem def_cal {N : List Str} {ir : TSt} (D : Dn K mg n st ps) (Sc : FnScope N ps (defScope st)) (len : ∀ args Q, S.sp args Q → args.length = ps.length)
    (hb : ∀ [Pn] (f : Addr) (cdv : Value) (A : Around) (outer : List PySem.Env) (s : Shared) (H : Hp) (E : XK), Room k (A.deeper (envOfC n (defScope st) s.heap.objs.size f cdv)) → (A.deeper (envOfC n (defScope st) s.heap.objs.size f cdv)).guards = some [] → LSs (cxOf CX0 P w K mg base N n (defScope st) f cdv A outer s H E).nox (defBody st) ir)
    (hsp : ∀ args Q, S.sp args Q → ir (endsOf args Q) (rho0 N args)) : Cal P w K mg base (k + 1) n ps S := by
  obtain ⟨f, fd, h1, h2, h3⟩ := D.ex
  exact ⟨f, fd, def_ok h1 Sc len (hb f) hsp, h2, h1.kp, h3⟩
structure Glb (K : PySem.W.Frag) (mg : Str → Option Value) (n : Str) (d : PD) : Prop where
  ex : ∃ v u, mg n = some u ∧ RelV v u ∧ ∀ F, Df K F v d
theorem LD.glb [Pn] {d : PD} (h : Glb X.K X.mg n d) (hg : Gl X n) (hd : (n == ("__debug__" : Str)) = false := by decide) : LD X (.Name n pos) (dC d) := by
  obtain ⟨v, u, h1, h2, h3⟩ := h.ex
  exact LD.glob hg h1 h2 h3 hd
def FreeOk (sc : Scope) : List Str → Prop
  | [] => True
  | x :: r => (sc.names.lookup x = some .cell ∨ sc.names.lookup x = some .free) ∧ FreeOk sc r
theorem FreeOk.mem {sc : Scope} : ∀ {xs : List Str} {x : Str}, FreeOk sc xs → x ∈ xs → sc.names.lookup x = some .cell ∨ sc.names.lookup x = some .free
  | [], x, _, h => by simp at h
  | y :: r, x, h, hx => by
    rcases List.mem_cons.mp hx with rfl | hx
    · exact h.1
    · exact FreeOk.mem h.2 hx
def blkChk (N : List Str) (scope : Scope) (own : List (Str × Nat)) (frees : List Str) : Bool :=
  decide (scope.kind = .function) && scope.names.all (fun y => decide (scope.names.lookup y.1 = some y.2)) && own.all (fun p => decide (N[p.2]? = some p.1)) &&
  scope.names.all (fun y => !decide (y.2 = .free) || decide (y.1 ∈ frees)) && scope.names.all (fun y => !(decide (y.2 = .local) || decide (y.2 = .cell)) || decide (y.1 ∈ own.map (·.1)) || decide (y.1 ∉ N))
theorem blk_mk {N : List Str} {sc scope : Scope} {own : List (Str × Nat)} (frees : List Str) (h : blkChk N scope own frees = true) (hf : FreeOk sc frees) : BlkOk N sc scope own := by
  unfold blkChk at h
  simp only [Bool.and_eq_true, List.all_eq_true, Bool.or_eq_true, Bool.not_eq_true', decide_eq_true_eq, decide_eq_false_iff_not] at h
  obtain ⟨⟨⟨⟨h1, h2⟩, h3⟩, h4⟩, h5⟩ := h
  refine ⟨h1, h2, h3, fun y hy e => hf.mem ((h4 y hy).resolve_left fun z => z e), fun y hy e => ?_⟩
  rcases h5 y hy with (z | z) | z
  · simp only [Bool.or_eq_false_iff, decide_eq_false_iff_not] at z
    exact e.elim (fun q => absurd q z.1) fun q => absurd q z.2
  · exact .inl z
  · exact .inr z
end
def dSlS (i : Nat) (lo hi : TPd) : TD := fun ρ Q => match ρ[i]? with
  | some (some (.sc xs)) => lo ρ fun a ρ1 => hi ρ1 fun b ρ2 => Q (.list (cutD xs a b)) ρ2
  | _ => False
theorem LD.slS [Pn] {X : Cx} {e : Expr} {lo hi : Option Expr} {tl th : TPd} {p2 pos : Pos} (i : Nat) (he : PE X e (tVar i)) (hl : LP X lo tl) (hh : LP X hi th) : LD X (.Subscript e (.Slice lo hi none p2) pos) (dSlS i tl th) :=
  ⟨peImp (pe_slice sl_list he hl.p hh.p) fun σ H Q ⟨G, ρ, F, Q', R, q, c⟩ => by
    unfold dSlS at q
    split at q
    · rename_i xs er
      obtain ⟨v, es, a, vs, rfl, hq, ds⟩ := R.sl i _ er
      refine ⟨_, es, G, ρ, F, _, R, q, fun x ρ1 H1 F1 h1 R1 s1 => ⟨G, ρ1, F1, _, R1, h1, fun y ρ2 H2 F2 h2 R2 s2 => ?_⟩⟩
      have s12 := s1.trans s2
      refine ⟨a, vs, rfl, R2.fh.seq (s12.seq hq), fun p hp => ?_⟩
      have g := Grow.frozen R2.fh hp (.lst (cutV vs x y))
      exact c _ _ _ _ _ h2 (R2.grow g) (s12.trans g.ff) (.lst (.inl upd_same) ((cut_df ds x y).mono (s12.trans g.ff)))
    · exact False.elim q⟩
section
variable {P : Program} {w : World} {K : PySem.W.Frag} {mg mb : Str → Option Value} {k : Nat} {fa a : Addr} {fd : FuncData} {x : Str} {sp : Sp} {s0 : Shared} {vs : List Value} {ns : List Int}
theorem callG (KX : K.In s0.heap) (hns : s0.heap.Ns mainGlobals mg) (hb : s0.heap.Ns builtinsNs mb) (hbb : ∀ x : Str, x ≠ "__name__" → mb x = bootBuiltins x) (hlim : s0.heap.NoLimit) (hdig : s0.heap.NoDigits) (hg : s0.gens = #[])
    (ha : s0.heap.get? a = some { cls := .type "list", data := .seq vs.toArray }) (hi : IntsAre vs ns) (hl : ns.length ≤ sizeLine) (hr : Room k callerA)
    (Fn : ∀ base : Heap, K.In base → base.Ns mainGlobals mg → base.NoDigits → FnG P w K mg base CX0 k fa fd [x] sp) (hbind : ∀ (s : Shared) (u : Value), BindsTo s fd ⟨[u], []⟩ [(x, u)])
    (hsp : ∀ H : Hp, L2.Only H → SqL K H a (ns.map V.int) → sp [.ref a] H (fun v _ => v = .bl true) fun _ _ _ => False) :
    codeAny (model P w) callerA (.call (.ref fa) ⟨[.ref a], []⟩) (fun r s' => r = .ok (.ret (.bool true)) ∧ OldK s0.heap s'.heap ∧ s'.os = s0.os ∧ AllBare s'.gens) s0 := by
  have rv := vals_ints hi
  have lenV := hi.length
  have main : ∀ H : Hp, L2.Only H → SqL K H a (ns.map V.int) → HOk P w H s0.heap → (∀ b, H b ≠ none → b = a) → (H a ≠ none → K.lookup a = none) →
      codeAny (model P w) callerA (.call (.ref fa) ⟨[.ref a], []⟩) (fun r s' => r = .ok (.ret (.bool true)) ∧ OldK s0.heap s'.heap ∧ s'.os = s0.os ∧ AllBare s'.gens) s0 := by
    intro H only sq hok one inK
    -- what is no list stands in the base, too
    have noDict : ∀ {b : Addr} {o : Obj} {es : Array DictEntry} {ep : Nat}, s0.heap.get? b = some o → o.data = .dict es ep → H b = none := fun {b o es ep} e d => by
      by_cases z : H b = none
      · exact z
      · have : b = a := one b z
        subst this
        rw [ha] at e; cases e; cases d
    have ns' : ∀ {b : Addr} {m : Str → Option Value}, s0.heap.Ns b m → (hidT s0.heap H).Ns b m := fun ⟨o, es, ep, e, d, r⟩ => ⟨o, es, ep, hidT_get e (noDict e d), d, r⟩
    have kin : K.In (hidT s0.heap H) := fun b o e => hidT_get (KX b o e) (by
      by_cases z : H b = none
      · exact z
      · have q : b = a := one b z
        subst q
        have := inK z
        rw [this] at e; cases e)
    have mod : Mod K mg (hidT s0.heap H) := ⟨kin, ns' hns, ⟨mb, ns' hb, hbb⟩, let ⟨mc, h1, h2⟩ := hlim; ⟨mc, ns' h1, h2⟩⟩
    have dig : (hidT s0.heap H).NoDigits := let ⟨mc, h1, h2⟩ := hdig; ⟨mc, ns' h1, h2⟩
    have env0 : Env0 P w K mg (hidT s0.heap H) callerA [] s0 H := ⟨rfl, mod, fun b o e => of_hidT e, Nat.le_of_eq (hidT_size _ _), trivial, fun b z => (by cases z), hok, .of_eq hg⟩
    refine codeAny_mono ((Fn _ kin (ns' hns) dig).run callerA [] s0 H ⟨[.ref a], []⟩ [.ref a] [.ref a] _ _ hr rfl env0 (hbind s0 (.ref a)) (.cons rfl .nil) (hsp H only sq)) fun r s' h => ?_
    rcases r with e | fl
    · exact False.elim h
    · cases fl <;> first | exact False.elim h | skip
      rename_i u
      obtain ⟨v, H', os, bare, un, hok', r', q⟩ := h
      have q : v = .bl true := q
      subst q
      have r' : u = Value.bool true := r'
      subst r'
      refine ⟨rfl, OldK.of_keep fun b o e => ?_, os, bare⟩
      rcases only b with z | ⟨ob, xs, z⟩
      · exact un.keep b o e z (fun hm => by cases hm) (fun hm => by cases hm)
      · have z2 := un.frzs b ob _ z
        have e1 := (hok b _ z).1
        have e2 := (hok' b _ z2).1
        rw [e] at e1; cases e1; exact e2
  cases hk : K.lookup a with
  | some o =>
    have e := KX a o hk
    rw [ha] at e
    cases e
    refine main (fun _ => none) (fun _ => .inl rfl) (.inr ⟨_, vs.toArray, _, hk, rfl, rfl, rfl, ?_, by simpa using rv⟩) (fun b u z => by cases z) (fun b z => absurd rfl z) fun z => absurd rfl z
    simp only [List.size_toArray, lenV]; exact hl
  | none =>
    let H : Hp := fun b => if b = a then some (.frz { cls := .type "list", data := .seq vs.toArray } (.lst (ns.map V.int))) else none
    have at_ : H a = some (.frz { cls := .type "list", data := .seq vs.toArray } (.lst (ns.map V.int))) := if_pos rfl
    have off : ∀ {b}, b ≠ a → H b = none := fun z => if_neg z
    refine main H (fun b => ?_) (.inl (.inr ⟨_, at_⟩)) (fun b u z => ?_) (fun b z => ?_) fun _ => hk
    · by_cases hb : b = a
      · subst hb; exact .inr ⟨_, _, at_⟩
      · exact .inl (off hb)
    · by_cases hb : b = a
      · subst hb
        rw [at_] at z
        cases z
        refine ⟨ha, ?_, vs, _, rv, ha⟩
        simp only [List.length_map]; exact hl
      · rw [off hb] at z; cases z
    · by_cases hb : b = a
      · exact hb
      · exact absurd (off hb) z
def lawS : FSpec := ⟨fun args Q => ∃ ns : List Int, args = [.sc (ns.map .int)] ∧ ns.length ≤ 63 ∧ Q (.d (.bool true)) []⟩
theorem lawS_end {H : Hp} (hS : SqL K H a (ns.map V.int)) (hl : ns.length ≤ 63) : liftC K lawS [.ref a] H (fun v _ => v = .bl true) fun _ _ _ => False := by
  refine ⟨[.sc (ns.map .int)], H, [], 0, fun r outs => r = .d (.bool true), Same.refl _, .cons ⟨a, _, rfl, hS, DfA.ints ns⟩ .nil, ⟨List.nodup_nil, (fun a h => by cases h), rfl, Nat.le_refl _, (fun k b h => by cases h), fun i j l m b xs ys e1 e2 h1 h2 => by cases i with | zero => simp at e1; subst e1; cases h1 | succ i => simp at e1⟩, ⟨ns, rfl, hl, rfl⟩, fun r outs v F' H' e Po => ?_⟩
  subst e
  have := Po.rs
  cases this
  rfl
open PySem.W in
theorem walkG {l : PySem.W.OpenLaw} {q : Program} {loose : List Str} {XP : (Str → Option Value) → Heap → Prop} {YP : World → Heap → Prop} {d : DefRec} {K : Params → PySem.W.Frag} {x : Str}
    (hn : l.most = some 63) (hdf : d.params.defaults = []) (hr : Room k callerA) (hY : ∀ (w : World) (h : Heap), YP w h → (K w.params).In h)
    (Fn : ∀ (w : World) (mg : Str → Option Value) (fa : Addr) (h : Heap), (K w.params).In h → h.Ns mainGlobals mg → mg d.name = some (.ref fa) →
      ∃ fd : FuncData, (∀ (s : Shared) (u : Value), BindsTo s fd ⟨[u], []⟩ [(x, u)]) ∧ ∀ base : Heap, (K w.params).In base → base.Ns mainGlobals mg → base.NoDigits → FnG l.prog w (K w.params) mg base CX0 k fa fd [x] (liftC (K w.params) lawS)) :
    PySem.W.WalkO q loose XP YP l.row.toRowW d [] (fun f vs => PySem.call f vs) := by
  refine Att.attach_call hn hdf fun w s₀ s₁ mg mb fa o pm cd doc a vs ns G Y ho hd hcd hmg hobj hints hlen hg => ?_
  have KX := hY w _ Y
  obtain ⟨fd, hb, hF⟩ := Fn w mg fa _ KX G.T.g hmg
  exact callG KX G.T.g G.T.b G.T.builtins G.T.nolimit G.T.nodigits hg hobj hints (Nat.le_trans hlen (by decide)) hr hF hb fun H _ hS => lawS_end hS hlen
end
end DL
namespace DL
open PySem L2 PyProof.Rows
mutual
/-- what repr shows here: no dict, ints of at most 4300 figures -/
def shw : PD → Bool
  | .int i => decide (i.natAbs < 10 ^ 4300)
  | .list xs => shwA xs
  | .tuple xs => shwA xs
  | .dict _ => false
  | .none => true
  | .bool _ => true
  | .str _ => true
def shwA : List PD → Bool
  | [] => true
  | x :: r => shw x && shwA r
end
section
variable {prog : Program} {w : World} {A : Around} {E : Value → Shared → Prop} {s : Shared} {a : Int} {t : Tok}
theorem intCallW {Q : Value → Shared → Prop} (hn : s.heap.NoDigits) (hl : a.natAbs < 10 ^ 4300) (h : Q (.str (toString a) s.toks) { s with toks := s.toks + 1 }) :
    wpAny (model prog w) A (call (.builtin "int.__repr__") [.int a t]) Q E s := by
  refine wpAny_call_entry F.slot_int_repr (typeIs_int s a t) F.entry_int_repr ?_ (F.args_int_repr_1 _); unfold Builtin.«int.__repr__»
  show wpAny _ _ (do let r ← Builtin.overDigitLimit? a; _) _ _ s; refine wpAny_bind (overDigitLimit_any hn (fun l => ?_) (fun g => absurd hl (Nat.not_lt.mpr g)))
  exact wpAny_bind (wpAny_mkStr (wpAny_pure ⟨_, rfl, h⟩) (int_text_fits10 hl))
theorem intReprW {Q : Value → Shared → Prop} (hu : A.units + 1 < cLine) (hn : s.heap.NoDigits) (hl : a.natAbs < 10 ^ 4300) (h : Q (.str (toString a) s.toks) { s with toks := s.toks + 1 }) :
    wpAny (model prog w) A (pyReprObj (.int a t)) Q E s :=
  wpAny_pyReprObj_slot (by omega) (typeIs_int s a t) F.slot_int_repr.toG (intCallW hn hl ⟨_, _, rfl, h⟩)
variable {h₀ : Heap}
mutual
theorem rk_of (hn : h₀.NoDigits) : ∀ {v : Value} {d : PD} {as : List Addr}, Reads h₀ v d as → shw d = true → d.shown.length ≤ sizeLine → ∃ bs, ReadAtMost h₀ (d.depth + 1) bs ∧ (∀ b ∈ bs, ∃ e as, Reads h₀ (.ref b) e as ∧ e.depth ≤ d.depth) ∧ ReprK prog w bs h₀ (d.depth + 1) v d.shown
  | _, _, _, .none, _, _ => ⟨[], (fun _ h => nomatch h), (fun _ h => nomatch h), by rw [PyData.shown]; exact .of_is ReprIs.none _ _ _⟩
  | _, _, _, .bool b, _, _ => ⟨[], (fun _ h => nomatch h), (fun _ h => nomatch h), by rw [PyData.shown]; exact .of_is (ReprIs.bool b) _ _ _⟩
  | _, _, _, .str x t, _, hz => ⟨[], (fun _ h => nomatch h), (fun _ h => nomatch h), by rw [PyData.shown] at hz ⊢; exact .of_is (ReprIs.str x t hz) _ _ _⟩
  | _, _, _, .int i t, hs, hz => ⟨[], (fun _ h => nomatch h), (fun _ h => nomatch h), by
      rw [PyData.shown]
      intro base hb A g E s Q hg hc hu hk hQ
      rw [pyReprUnder_leaf (v := .int i t) (by omega) (fun _ e => nomatch e)]
      unfold pyRepr
      exact wpAny_bind (intReprW (by simp only [PyData.depth] at hu; omega) (hn.keeps hk) (by simpa [shw] using hs) (wpAny_pure (hQ s.heap _ fun _ _ e => e)))⟩
  | _, _, _, .dict _ _ _ _ _, hs, _ => by simp [shw] at hs
  | _, _, _, .list (a := a) (vs := vs) (xs := xs) h1 h2 h3 h4, hs, hz => by
    rw [PyData.shown] at hz ⊢
    obtain ⟨bs, hb, hb2, hk⟩ := rkA_of hn h4 (by simpa [shw] using hs) (fun t ht => Nat.le_trans (listText_mem_le ht) hz)
    have r : Reads h₀ (.ref a) (.list xs) _ := .list h1 h2 h3 h4
    have dd : (PyData.list xs).depth = PyData.depthAll xs + 1 := by first | rfl | (simp only [PyData.depth]; done) | (simp only [PyData.depth]; omega)
    have hna : a ∉ bs := fun hm => by
      obtain ⟨e, as', r', le⟩ := hb2 a hm
      obtain ⟨q, _⟩ := reads_det (fun _ _ e _ => e) r r'
      rw [q, dd] at le
      omega
    have all : ∀ b ∈ a :: bs, ∃ e as, Reads h₀ (.ref b) e as ∧ e.depth ≤ (PyData.list xs).depth := fun b hm => by
      rcases List.mem_cons.mp hm with q | hm
      · subst q; exact ⟨_, _, r, Nat.le_refl _⟩
      · obtain ⟨e, as', r', le⟩ := hb2 b hm; exact ⟨e, as', r', by omega⟩
    refine ⟨a :: bs, fun b hm => let ⟨e, as', r', le⟩ := all b hm; ⟨e, as', r', by omega⟩, all, ?_⟩
    rw [dd]
    obtain ⟨l⟩ := vs
    cases l with
    | nil =>
      have h4' : ReadsAll h₀ [] xs _ := h4
      cases h4'
      rw [PyData.shownAll, listText_nil]
      exact ReprK.listEmpty h1 h2 h3
    | cons x l => exact ReprK.list h1 h2 h3 hna (by simpa using hk.length_eq) (fun i y e => hk.item i y (by simpa using e))
  | _, _, _, .tuple (a := a) (xs := xs) h1 h2 h3 h4, hs, hz => by
    rw [PyData.shown] at hz ⊢
    obtain ⟨bs, hb, hb2, hk⟩ := rkA_of hn h4 (by simpa [shw] using hs) (fun t ht => Nat.le_trans (tupleText_mem_le ht) hz)
    have r : Reads h₀ (.ref a) (.tuple xs) _ := .tuple h1 h2 h3 h4
    have dd : (PyData.tuple xs).depth = PyData.depthAll xs + 1 := by first | rfl | (simp only [PyData.depth]; done) | (simp only [PyData.depth]; omega)
    have hna : a ∉ bs := fun hm => by
      obtain ⟨e, as', r', le⟩ := hb2 a hm
      obtain ⟨q, _⟩ := reads_det (fun _ _ e _ => e) r r'
      rw [q, dd] at le
      omega
    have all : ∀ b ∈ a :: bs, ∃ e as, Reads h₀ (.ref b) e as ∧ e.depth ≤ (PyData.tuple xs).depth := fun b hm => by
      rcases List.mem_cons.mp hm with q | hm
      · subst q; exact ⟨_, _, r, Nat.le_refl _⟩
      · obtain ⟨e, as', r', le⟩ := hb2 b hm; exact ⟨e, as', r', by omega⟩
    refine ⟨a :: bs, fun b hm => let ⟨e, as', r', le⟩ := all b hm; ⟨e, as', r', by omega⟩, all, ?_⟩
    rw [dd]
    exact ReprK.tuple h1 h2 h3 hna hk
theorem rkA_of (hn : h₀.NoDigits) : ∀ {vs : List Value} {ds : List PD} {as : List Addr}, ReadsAll h₀ vs ds as → shwA ds = true → (∀ t ∈ PyData.shownAll ds, t.length ≤ sizeLine) →
    ∃ bs, ReadAtMost h₀ (PyData.depthAll ds + 1) bs ∧ (∀ b ∈ bs, ∃ e as, Reads h₀ (.ref b) e as ∧ e.depth ≤ PyData.depthAll ds) ∧ ReprAllK prog w bs h₀ (PyData.depthAll ds + 1) vs (PyData.shownAll ds)
  | _, _, _, .nil, _, _ => ⟨[], (fun _ h => nomatch h), (fun _ h => nomatch h), by rw [PyData.shownAll]; exact .nil⟩
  | _, _, _, .cons (d := d) (ds := ds) r rs, hs, hz => by
    have hs' : shw d = true ∧ shwA ds = true := by simpa [shwA] using hs
    rw [PyData.shownAll] at hz ⊢
    obtain ⟨b1, hb1, hc1, k1⟩ := rk_of hn r hs'.1 (hz _ List.mem_cons_self)
    obtain ⟨b2, hb2, hc2, k2⟩ := rkA_of hn rs hs'.2 (fun t ht => hz t (List.mem_cons_of_mem _ ht))
    have m1 : d.depth ≤ PyData.depthAll (d :: ds) := by simp only [PyData.depthAll]; exact Nat.le_max_left _ _
    have m2 : PyData.depthAll ds ≤ PyData.depthAll (d :: ds) := by simp only [PyData.depthAll]; exact Nat.le_max_right _ _
    have all : ∀ b ∈ b1 ++ b2, ∃ e as, Reads h₀ (.ref b) e as ∧ e.depth ≤ PyData.depthAll (d :: ds) := fun b hm => by
      rcases List.mem_append.mp hm with hm | hm
      · obtain ⟨e, as', r', le⟩ := hc1 b hm; exact ⟨e, as', r', by omega⟩
      · obtain ⟨e, as', r', le⟩ := hc2 b hm; exact ⟨e, as', r', by omega⟩
    exact ⟨b1 ++ b2, fun b hm => let ⟨e, as', r', le⟩ := all b hm; ⟨e, as', r', by omega⟩, all,
      .cons ((k1.more fun b hb => List.mem_append_left _ hb).level_le (by omega)) (k2.more_le (fun b hb => List.mem_append_right _ hb) (by omega))⟩
end
theorem reprW (hn : h₀.NoDigits) {b : Addr} {d : PD} {as : List Addr} {Q : Value → Shared → Prop} (r : Reads h₀ (.ref b) d as) (hs : shw d = true) (hz : d.shown.length ≤ sizeLine) (hg : A.guards = some []) (hu : A.units + (d.depth + 2) < cLine)
    (hk0 : ∀ b o, h₀.get? b = some o → s.heap.get? b = some o) (hQ : ∀ h' u tk, (∀ b o, s.heap.get? b = some o → h'.get? b = some o) → Q (.str d.shown u) { s with heap := h', toks := tk }) :
    wpAny (model prog w) A (call (.builtin "repr") [.ref b]) Q E s := by
  cases r with
  | dict _ _ _ _ _ => simp [shw] at hs
  | list h1 h2 h3 h4 =>
    rename_i o vs n xs bs₀
    rw [PyData.shown] at hz
    simp only [PyData.shown] at hQ
    obtain ⟨bs, hb, hb2, hk⟩ := rkA_of (prog := prog) (w := w) hn h4 (by simpa [shw] using hs) (fun t ht => Nat.le_trans (listText_mem_le ht) hz)
    have r : Reads h₀ (.ref b) (.list xs) _ := .list h1 h2 h3 h4
    have dd : (PyData.list xs).depth = PyData.depthAll xs + 1 := by first | rfl | (simp only [PyData.depth]; done) | (simp only [PyData.depth]; omega)
    have hna : b ∉ bs := fun hm => by
      obtain ⟨e, as', r', le⟩ := hb2 b hm
      obtain ⟨q, _⟩ := reads_det (fun _ _ e _ => e) r r'
      rw [q, dd] at le
      omega
    rw [dd] at hu
    refine call_repr_slot (by omega) ⟨o, hk0 _ _ h1, h2⟩ F.slot_list_repr.toG ?_
    obtain ⟨l⟩ := vs
    cases l with
    | nil =>
      have h4' : ReadsAll h₀ [] xs _ := h4
      cases h4'
      simp only [PyData.shownAll, listText_nil] at hQ
      exact call_list_repr_empty ⟨o, hk0 _ _ h1, h2⟩ (hk0 _ _ h1) h3 ⟨_, _, rfl, hQ s.heap _ _ fun _ _ e => e⟩
    | cons x l =>
      exact call_list_reprK h1 h2 h3 hna (by simpa using hk.length_eq) (fun i y e => hk.item i y (by simpa using e)) hg (fun b _ => Clear.nil b) (by show A.units + 1 + _ < cLine; omega) hk0 (fun h' u tk hk => ⟨_, _, rfl, hQ h' u tk hk⟩) hz
  | tuple h1 h2 h3 h4 =>
    rename_i o vs n xs
    rw [PyData.shown] at hz
    simp only [PyData.shown] at hQ
    obtain ⟨bs, hb, hb2, hk⟩ := rkA_of (prog := prog) (w := w) hn h4 (by simpa [shw] using hs) (fun t ht => Nat.le_trans (tupleText_mem_le ht) hz)
    have r : Reads h₀ (.ref b) (.tuple xs) _ := .tuple h1 h2 h3 h4
    have dd : (PyData.tuple xs).depth = PyData.depthAll xs + 1 := by first | rfl | (simp only [PyData.depth]; done) | (simp only [PyData.depth]; omega)
    have hna : b ∉ bs := fun hm => by
      obtain ⟨e, as', r', le⟩ := hb2 b hm
      obtain ⟨q, _⟩ := reads_det (fun _ _ e _ => e) r r'
      rw [q, dd] at le
      omega
    rw [dd] at hu
    refine call_repr_slot (by omega) ⟨o, hk0 _ _ h1, h2⟩ F.slot_tuple_repr ?_
    exact call_tuple_reprK h1 h2 h3 hna hk hg (fun b _ => Clear.nil b) (by show A.units + 1 + _ < cLine; omega) hk0 (fun h' u tk hk => ⟨_, _, rfl, hQ h' u tk hk⟩) hz
end
section
variable {X : Cx} {K : PySem.W.Frag} {F H : Hp}
def rRepr (K : PySem.W.Frag) : List V → Hp → VK → Prop := fun vs H Q => ∃ v d, vs = [v] ∧ Dp K H v d ∧ shw d = true ∧ d.depth ≤ 60 ∧ d.shown.length ≤ sizeLine ∧ Q (.str d.shown) H
def bRepr : FN
  | [d], k => (noDict d = true ∧ shw d = true ∧ d.depth ≤ 60 ∧ d.shown.length ≤ sizeLine) ∧ k (.str d.shown)
  | _, _ => False
theorem ok_repr : BiOk K bRepr (rRepr K) := by
  intro F H vs xs k Q s d h c
  unfold bRepr at h
  split at h
  · obtain ⟨v, rfl, d1⟩ := d.one
    obtain ⟨⟨h1, h2, h3, h4⟩, h5⟩ := h
    exact ⟨v, _, rfl, (d1.df s).dp h1, h2, h3, h4, c _ _ F H h5 (Grow.refl s) (.str _)⟩
  · exact False.elim h
theorem call_repr {k : Nat} (hr : Room k X.A) (hgd : X.A.guards = some []) (hnd : X.base.NoDigits) : CallR X (.builtin "repr") (rRepr X.K) := by
  intro pins s σ H xs us Q I r ⟨v, d, ev, dp, hs, hd, hz, q⟩
  subst ev
  obtain ⟨u, rfl, ru⟩ := vals1 r
  have hu := hr.units
  have nd : s.heap.NoDigits := hnd.keeps I.bk
  obtain ⟨as, rd⟩ := Dp.reads I d v u dp ru
  have fin : ∀ (h' : Heap) (x : Tok) (tk : Nat), (∀ b o, s.heap.get? b = some o → h'.get? b = some o) → EP X pins σ Q (.str d.shown x) { s with heap := h', toks := tk } := fun h' x tk hk => ⟨.str d.shown, H, I.kept (t' := tk) hk, ⟨_, rfl⟩, q⟩
  cases rd with
  | none =>
    have z := fin s.heap s.toks (s.toks + 1) (fun _ _ e => e)
    rw [PyData.shown] at z
    exact call_repr_gives (typeIs_none s) F.slot_NoneType_repr F.entry_NoneType_repr (F.args_NoneType_repr_1 _) gives_none_repr z (hx := by decide)
  | bool b =>
    have z := fin s.heap s.toks (s.toks + 1) (fun _ _ e => e)
    rw [PyData.shown] at z
    exact call_repr_gives (PySem.typeIs_bool s b) F.slot_bool_repr F.entry_bool_repr (F.args_bool_repr_1 _) (gives_bool_repr b) z (hx := by cases b <;> decide)
  | str x t =>
    have z := fin s.heap s.toks (s.toks + 1) (fun _ _ e => e)
    rw [PyData.shown] at z hz
    exact call_repr_gives (typeIs_str s x t) F.slot_str_repr F.entry_str_repr (F.args_str_repr_1 _) (gives_str_repr x t) z (hx := hz)
  | int i t =>
    refine call_repr_slot (by omega) (typeIs_int s i t) F.slot_int_repr.toG (intCallW nd (by simpa [shw] using hs) ⟨_, _, rfl, ?_⟩)
    have := fin s.heap s.toks (s.toks + 1) (fun _ _ e => e)
    rw [PyData.shown] at this; exact this
  | list h1 h2 h3 h4 => exact reprW nd (.list h1 h2 h3 h4) hs hz hgd (by omega) (fun _ _ e => e) fin
  | tuple h1 h2 h3 h4 => exact reprW nd (.tuple h1 h2 h3 h4) hs hz hgd (by omega) (fun _ _ e => e) fin
  | dict h1 h2 h3 h4 h5 => simp [shw] at hs
end
end DL
namespace DL
open PySem L2 PyProof.Rows
section
variable {G : Gm} {X : Cx} {K : PySem.W.Frag} {F F' H H' : Hp} {ρ : En} {σ : L2.St} {e e2 e3 : Expr} {es : List Expr} {pos : Pos} {r r' : R2} {f f' : F2} {oa ob oc : Op1} {ta tb tc : TD} {t u : TTd}
theorem tTest_of [Pn] {te : TE} (ht : ∀ Q, liftD K ta σ H Q → te σ H Q) {Q : Bool → Hp → Prop} (h : liftT K (tVal ta) σ H Q) : tTest te σ H Q := by
  obtain ⟨G, ρ, F, Q', R, q, c⟩ := h
  refine ht _ ⟨G, ρ, F, _, R, q, fun x ρ1 v H1 F1 h1 R1 s1 d => ?_⟩
  split at h1
  · cases d
    exact ⟨_, rfl, c _ _ _ _ h1 R1 s1⟩
  · exact False.elim h1
theorem LT.cmp [Pn] {op : CmpOp} (ho : OpR X (compareOp op) r) (hf : Op2Ok X.K f r) (ha : LO X e oa) (hb : LO X e2 ob) (hm : behindInMarks op e2 = false) : LT X (.Compare e [op] [e2] pos) (tVal (dBin f oa ob)) :=
  ⟨ptImp (pt_cmpR ho ha.p hb.p hm) fun _ _ _ h => tTest_of (fun _ z => tOp_of hf z) h⟩
theorem LT.chain [Pn] {op op' : CmpOp} {p p' : Int → Int → Bool} (ho : OpR X (compareOp op) (rI0 fun i j => .bl (p i j))) (ho' : OpR X (compareOp op') (rI0 fun i j => .bl (p' i j))) (ha : LO X e oa) (hb : LO X e2 ob) (hc : LO X e3 oc)
    (hm : lastMarks [op, op'] [e2, e3] = false := by with_unfolding_all rfl) : LT X (.Compare e [op, op'] [e2, e3] pos) (tVal (dChain p p' oa ob oc)) :=
  ⟨ptImp (pt_chain ho ho' ha.p hb.p hc.p hm) fun _ _ _ h => tTest_of (fun _ z => tChain_of z) h⟩
end
end DL
namespace DL
open PySem L2 PyProof.Rows
theorem noDictA_map : ∀ xs : List PD, noDictA xs = xs.all noDict
  | [] => rfl
  | x :: r => by rw [noDictA, noDictA_map r]; rfl
theorem canLayAll_map : ∀ xs : List PD, PyData.canLayAll0 xs = xs.all PyData.canLay0
  | [] => rfl
  | x :: r => by rw [PyData.canLayAll0, canLayAll_map r]; rfl
theorem shwA_map : ∀ xs : List PD, shwA xs = xs.all shw
  | [] => rfl
  | x :: r => by rw [shwA, shwA_map r]; rfl
theorem depthAll_le {n : Nat} : ∀ {xs : List PD}, (∀ x ∈ xs, x.depth ≤ n) → PyData.depthAll xs ≤ n
  | [], _ => Nat.zero_le _
  | x :: r, h => by
    have h1 := h x List.mem_cons_self
    have h2 := depthAll_le (xs := r) fun y hy => h y (List.mem_cons_of_mem _ hy)
    simp only [PyData.depthAll]
    exact Nat.max_le.mpr ⟨h1, h2⟩
structure Shp (n : Nat) (d : PD) : Prop where
  cl : d.canLay0 = true
  nd : noDict d = true
  dp : d.depth ≤ n
theorem Shp.shp {n : Nat} {d : PD} (h : Shp n d) (hn : n ≤ 64 := by decide) : shp d := by
  refine ⟨?_, h.nd⟩
  have := h.dp
  simp [SeqAt.shaped, h.cl]
  omega
theorem Shp.mono {n m : Nat} {d : PD} (h : Shp n d) (hn : n ≤ m) : Shp m d := ⟨h.cl, h.nd, Nat.le_trans h.dp hn⟩
theorem Shp.list {n : Nat} {xs : List PD} (h : ∀ x ∈ xs, Shp n x) : Shp (n + 1) (.list xs) := by
  refine ⟨?_, ?_, ?_⟩
  · rw [PyData.canLay0, canLayAll_map, List.all_eq_true]; exact fun x hx => (h x hx).cl
  · rw [noDict, noDictA_map, List.all_eq_true]; exact fun x hx => (h x hx).nd
  · simp only [PyData.depth]; exact Nat.succ_le_succ (depthAll_le fun x hx => (h x hx).dp)
theorem Shp.tup {n : Nat} {xs : List PD} (h : ∀ x ∈ xs, Shp n x) : Shp (n + 1) (.tuple xs) := by
  refine ⟨?_, ?_, ?_⟩
  · rw [PyData.canLay0, canLayAll_map, List.all_eq_true]; exact fun x hx => (h x hx).cl
  · rw [noDict, noDictA_map, List.all_eq_true]; exact fun x hx => (h x hx).nd
  · simp only [PyData.depth]; exact Nat.succ_le_succ (depthAll_le fun x hx => (h x hx).dp)
theorem Shp.int {n : Nat} (i : Int) : Shp n (.int i) := ⟨rfl, rfl, Nat.zero_le _⟩
theorem Shp.str {n : Nat} {x : Str} (h : PyData.canLay0 (.str x) = true) : Shp n (.str x) := ⟨h, rfl, Nat.zero_le _⟩
theorem Shp.ints (ns : List Int) {n : Nat} : ∀ x ∈ ns.map PyData.int, Shp n x := fun x hx => by
  obtain ⟨i, _, rfl⟩ := List.mem_map.mp hx
  exact .int i
theorem eqv_nil (xs : List PD) : PyData.eqv (.list xs) (.list []) = xs.isEmpty := by
  cases xs <;> simp [PyData.eqv, PyData.eqvAll]
theorem atI_some {α : Type} {xs : List α} {i : Int} (h0 : 0 ≤ i) (h1 : i < xs.length) : ∃ x, atI xs i = some x ∧ xs[i.toNat]? = some x := by
  have hk : i.toNat < xs.length := by omega
  refine ⟨xs[i.toNat], ?_, List.getElem?_eq_getElem hk⟩
  have e : i = ((i.toNat : Nat) : Int) := by omega
  have := atI_nat (List.getElem?_eq_getElem hk)
  rw [← e] at this
  exact this
theorem log2_lt {i : Int} {k : Nat} (h : i.natAbs < 2 ^ k) (hk : 0 < k) : i.natAbs.log2 < k := by
  by_cases z : i.natAbs = 0
  · rw [z]; simpa using hk
  · exact (Nat.log2_lt z).mpr h
theorem mulOk (a b : Nat) {i j : Int} (h1 : i.natAbs < 2 ^ a) (h2 : j.natAbs < 2 ^ b) (h : a + b ≤ 1000000 := by decide) (h3 : 0 < a := by decide) (h4 : 0 < b := by decide) : IntMulOk i j := by
  refine CMulW.ok ?_
  have x := log2_lt h1 h3
  have y := log2_lt h2 h4
  unfold CMulW
  omega
theorem intBits_le {i : Int} {k : Nat} (h : i.natAbs < 2 ^ k) : Builtin.Int.intBits i ≤ k := by
  unfold Builtin.Int.intBits
  by_cases z : i = 0
  · subst z; simp
  · have zz : (i == 0) = false := by simpa using z
    rw [zz]
    have := (Nat.log2_lt (n := i.natAbs) (k := k) (by omega)).mpr h
    simp only [Bool.false_eq_true, if_false]
    omega
theorem powOk {i j : Int} {k m : Nat} (h : i.natAbs < 2 ^ k) (h0 : 0 ≤ j) (h1 : j ≤ m) (hb : k * m ≤ 2 ^ 27 := by decide) : CPowW i j := by
  refine ⟨h0, ?_⟩
  have a := intBits_le h
  have b : (Builtin.Int.intBits i : Int) * j ≤ (k : Int) * m := Int.mul_le_mul (by omega) h1 h0 (by omega)
  have c : ((k * m : Nat) : Int) ≤ ((2 ^ 27 : Nat) : Int) := Int.ofNat_le.mpr hb
  rw [Int.natCast_mul] at c
  exact Int.le_trans b (by simpa using c)
end DL
namespace DL
open PySem L2 PyProof.Rows
def valP {κ : Type} [DecidableEq κ] : List (κ × PD) → κ → Option PD
  | [], _ => none
  | p :: r, k => if p.1 = k then some p.2 else valP r k
def hasP {κ : Type} [DecidableEq κ] (kvs : List (κ × PD)) (k : κ) : Bool := kvs.any fun p => decide (p.1 = k)
def putP {κ : Type} [DecidableEq κ] (kvs : List (κ × PD)) (k : κ) (x : PD) : List (κ × PD) := if hasP kvs k = true then kvs.map (fun p => if p.1 = k then (p.1, x) else p) else kvs ++ [(k, x)]
def mergeP {κ : Type} [DecidableEq κ] (kvs more : List (κ × PD)) : List (κ × PD) := more.foldl (fun acc p => putP acc p.1 p.2) kvs
section
variable {κ : Type} [DecidableEq κ] {K : PySem.W.Frag} {F F' : Hp} {us : List (κ × V)} {kvs : List (κ × PD)} {k : κ} {v : V} {x : PD}
theorem DKv.val (h : DKv K F us kvs) (k : κ) : (valV us k = none ∧ valP kvs k = none) ∨ ∃ v x, valV us k = some v ∧ valP kvs k = some x ∧ Df K F v x := by
  unfold DKv at h
  induction h with
  | nil => exact .inl ⟨rfl, rfl⟩
  | @cons p q ps qs a b ih =>
    by_cases e : p.1 = k
    · exact .inr ⟨p.2, q.2, valV_pos e, if_pos (a.1.symm.trans e), a.2⟩
    · rw [valV_neg e]
      have : valP (q :: qs) k = valP qs k := if_neg fun z => e (a.1.trans z)
      rw [this]; exact ih
theorem DKv.has (h : DKv K F us kvs) (k : κ) : (us.any fun p => decide (p.1 = k)) = hasP kvs k := by
  unfold DKv at h
  unfold hasP
  induction h with
  | nil => rfl
  | @cons p q ps qs a b ih => rw [List.any_cons, List.any_cons, ih, a.1]
theorem DKv.append (h : DKv K F us kvs) {us2 : List (κ × V)} {kvs2 : List (κ × PD)} (g : DKv K F us2 kvs2) : DKv K F (us ++ us2) (kvs ++ kvs2) := by
  unfold DKv at *
  induction h with
  | nil => exact g
  | cons a b ih => exact .cons a ih
theorem DKv.put (h : DKv K F us kvs) (d : Df K F v x) : DKv K F (putK us k v) (putP kvs k x) := by
  unfold putK putP
  rw [h.has k]
  split
  · rename_i hh
    clear hh
    unfold DKv at h ⊢
    induction h with
    | nil => exact .nil
    | @cons p q ps qs a b ih =>
      refine .cons ?_ ih
      dsimp only
      by_cases e : p.1 = k
      · rw [if_pos e, if_pos (a.1.symm.trans e)]; exact ⟨a.1, d⟩
      · rw [if_neg e, if_neg fun z => e (a.1.trans z)]; exact a
  · exact h.append (.cons ⟨rfl, d⟩ .nil)
theorem DKv.length (h : DKv K F us kvs) : us.length = kvs.length := by
  unfold DKv at h
  induction h with
  | nil => rfl
  | cons _ _ ih => rw [List.length_cons, List.length_cons, ih]
end
section
variable {G : Gm} {X : Cx} {K : PySem.W.Frag} {F F' H H' : Hp} {ρ : En} {σ : L2.St} {e e2 e3 o : Expr} {es : List Expr} {pos cpos apos : Pos} {oa ob oc : Op1} {ta tb tc : TD} {t u : TTd} {tf : TF} {v : V} {x : PD}
theorem DKv.merge {us : List (Key × V)} {kvs : List (Key × PD)} : ∀ {m : List (Key × V)} {n : List (Key × PD)}, DKv K F us kvs → DKv K F m n → DKv K F (mergeK us m) (mergeP kvs n) := by
  intro m n h g
  unfold DKv at g
  induction g generalizing us kvs with
  | nil => exact h
  | @cons p q ps qs a b ih =>
    have z : DKv K F (putK us p.1 p.2) (putP kvs q.1 q.2) := by rw [a.1]; exact h.put a.2
    exact ih z
def dVals : List TD → En → (List PD → En → Prop) → Prop
  | [], ρ, Q => Q [] ρ
  | t :: r, ρ, Q => t ρ fun x ρ1 => dVals r ρ1 fun xs ρ2 => Q (x :: xs) ρ2
def liftPr [Pn] (K : PySem.W.Frag) (ks : List Key) (ts : List TD) (σ : L2.St) (H : Hp) (Q : List (V × V) → Hp → Prop) : Prop := ∃ G ρ F Q', Rel K G ρ F σ H ∧ dVals ts ρ Q' ∧
  ∀ xs ρ' vs H' F', Q' xs ρ' → Rel K G ρ' F' σ H' → Same F F' → DfA K F' vs xs → vs.length = ks.length → Q ((ks.zip vs).map fun p => (kV p.1, p.2)) H'
structure LPr [Pn] (X : Cx) (pos : Pos) (keys : List (Option Expr)) (values : List Expr) (ks : List Key) (ts : List TD) : Prop where
  ex : ∃ trs, PPs X pos keys values trs ∧ ∀ σ H Q, liftPr X.K ks ts σ H Q → tPairs trs σ H Q
theorem LPr.nil [Pn] : LPr X pos [] [] [] [] := ⟨[], pps_nil, fun σ H Q ⟨G, ρ, F, Q', R, q, c⟩ => c [] ρ [] H F q R (Same.refl _) .nil rfl⟩
theorem LPr.cons [Pn] {ke : Expr} {k : Key} {tk : L2.TE} {ks : List (Option Expr)} {vs : List Expr} {kr : List Key} {ts : List TD} (hk : PE X ke tk) (hk2 : ∀ σ H Q, Q (kV k) H → tk σ H Q) (h : LD X e ta) (r : LPr X pos ks vs kr ts) : LPr X pos (some ke :: ks) (e :: vs) (k :: kr) (ta :: ts) := by
  obtain ⟨trs, p, w⟩ := r.ex
  refine ⟨_, pps_cons hk h.p p, fun σ H Q ⟨G, ρ, F, Q', R, q, c⟩ => hk2 _ _ _ ⟨G, ρ, F, _, R, q, fun x ρ1 v H1 F1 h1 R1 s1 d => w _ _ _ ⟨G, ρ1, F1, _, R1, h1, fun xs ρ2 us H2 F2 h2 R2 s2 d2 hl => ?_⟩⟩⟩
  exact c (x :: xs) ρ2 (v :: us) H2 F2 h2 R2 (s1.trans s2) (.cons (d.mono s2) d2) (by rw [List.length_cons, List.length_cons, hl])
theorem LPr.cs [Pn] {x : Str} {j : Nat} {p : Pos} {ks : List (Option Expr)} {vs : List Expr} {kr : List Key} {ts : List TD} (h : LD X e ta) (r : LPr X pos ks vs kr ts) : LPr X pos (some (.Constant (.str x) j p) :: ks) (e :: vs) (.inr x :: kr) (ta :: ts) :=
  LPr.cons pe_str (fun _ _ _ q => q) h r
theorem zip_kv {ks : List Key} {vs : List V} {xs : List PD} (d : DfA K F vs xs) : DKv K F (ks.zip vs) (ks.zip xs) := by
  induction ks generalizing vs xs with
  | nil => exact .nil
  | cons k r ih =>
    cases d with
    | nil => exact .nil
    | cons a b => exact .cons ⟨rfl, a⟩ (ih b)
def fDict (ks : List Key) (ts : List TD) : TF := fun ρ Q => dVals ts ρ fun xs ρ1 => Q (.dk none (mergeP [] (ks.zip xs))) ρ1
theorem LF.dict [Pn] {keys : List (Option Expr)} {values : List Expr} {ks : List Key} {ts : List TD} (h : LPr X pos keys values ks ts) (hall : keys.all (·.isSome) = true) (hl : keys.length = values.length) (h0 : keys ≠ []) (h15 : keys.length ≤ 15) (h15' : ks.length ≤ 15) :
    LF X (.Dict keys values pos) (fDict ks ts) := by
  obtain ⟨trs, p, w⟩ := h.ex
  refine ⟨peImp (pe_disp p hall hl h0 h15) fun σ H Q ⟨G, ρ, F, Q', R, q, c⟩ p hp => w _ _ _ ?_⟩
  have R1 := R.grow (Grow.owned R.fh hp (.dK []))
  have h00 := R.h0 hp
  have nd : ∀ (j : Nat) (m : Lc), ρ[j]? = some (some m) → m.own = true → σ[j]? ≠ some (some (.ref p)) := fun j m e hm z => by
    obtain ⟨a, e1, nf, ow, ob, eo, _⟩ := R.at_ e hm
    rw [z] at e1
    have : p = a := by simpa using e1
    subst this
    rw [hp] at eo; cases eo
  have dio : p ∉ G.io := fun z => (R.ih p z).2 h00
  have Rp := R1.pin (R.fh.free hp) upd_same h00 nd (R.noN_free hp)
  refine ⟨_, ρ, F, _, Rp, q, fun xs ρ1 vs H1 F1 h1 R2 s1 d hn => ?_⟩
  obtain ⟨R3, f3, h3, n3⟩ := R2.unpin R.ok h00 (R.ff.free (R.fh.free hp)) dio
  refine ⟨h3, ks.zip vs, rfl, by rw [List.length_zip]; omega, ?_⟩
  have ok : DKv X.K F1 (mergeK [] (ks.zip vs)) (mergeP [] (ks.zip xs)) := DKv.merge .nil (zip_kv d)
  exact c _ _ _ _ _ h1 (R3.side f3 h00 n3 (R2.unpinN dio)) s1 ⟨p, rfl, rfl, ⟨f3, h00, _, upd_same, ok⟩, ⟨n3, R2.unpinN dio, .nil rfl⟩⟩
def keyP : PD → Option Key
  | .int i => some (.inl i)
  | .str s => some (.inr s)
  | _ => none
theorem keyP_v {y : PD} {k : Key} (h : keyP y = some k) {v : V} (d : Dr K F H v y) : v = kV k := by
  cases y <;> simp [keyP] at h
  · subst h; exact d.int
  · subst h; exact d.str
def dGetF (t : TF) (oa ob : Op1) : TD := fun ρ Q => t ρ fun l ρ1 => match l with
  | .dk none kvs => oa.run ρ1 fun a ρ2 => ob.run ρ2 fun b ρ3 => res1 ρ3 a fun y => resF ρ3 b fun z => ∃ k, keyP y = some k ∧ Q ((valP kvs k).getD z) ρ3
  | _ => False
theorem LD.getF [Pn] (hu : X.A.units + 1 < cLine) (h : LF X o tf) (ha : LO X e oa) (hb : LO X e2 ob) (m : M2 X o "get" apos e e2 cpos) : LD X (.Call (.Attribute o "get" apos) [e, e2] [] cpos) (dGetF tf oa ob) :=
  ⟨peImp (pe_dget2 hu h.p ha.p hb.p m) fun σ H Q ⟨G, ρ, F, Q', R, q, c⟩ => ⟨G, ρ, F, _, R, q, fun l ρ1 v H1 F1 h1 R1 s1 r1 => by
    split at h1
    · rename_i kvs
      obtain ⟨G', Rp, back⟩ := r1.keep R1
      obtain ⟨a, ev, _, ⟨nf, ow, ob', eo, ok⟩, _⟩ := r1
      cases ob' <;> first | exact False.elim ok | skip
      rename_i us
      refine ⟨a, ev, .inl ⟨us, .inl eo⟩, G', ρ1, F1, _, Rp, h1, fun x ρ2 w H2 F2 h2 R2 s2 ax => ⟨G', ρ2, F2, _, R2, h2, fun y ρ3 w2 H3 F3 h3 R3 s3 ay => ?_⟩⟩
      obtain ⟨R4, r4, _⟩ := back R3 (s2.trans s3)
      obtain ⟨y', h4, dx⟩ := res1_dr R4 (ax.mono s3) h3
      obtain ⟨z', h5, dz⟩ := resF_df R4 ay h4
      obtain ⟨k, hk, h6⟩ := h5
      obtain ⟨b, ev2, _, ⟨nf2, ow2, ob2, eo2, ok2⟩, _⟩ := r4
      have eab : a = b := by rw [ev] at ev2; exact V.ref.inj ev2
      subst eab
      cases ob2 <;> first | exact False.elim ok2 | skip
      rename_i us2
      have ok2 : DKv X.K F3 us2 kvs := ok2
      refine ⟨_, .inl ⟨us2, k, .inl eo2, keyP_v hk dx, rfl⟩, ?_⟩
      have s123 := s1.trans (s2.trans s3)
      rcases ok2.val k with ⟨e1, e2⟩ | ⟨v', x', e1, e2, d'⟩
      · rw [e1]; rw [e2] at h6
        exact c _ _ _ _ _ h6 R4 s123 dz
      · rw [e1]; rw [e2] at h6
        exact c _ _ _ _ _ h6 R4 s123 d'
    · exact False.elim h1⟩⟩
end
end DL
namespace DL
open PySem L2 PyProof.Rows
section
variable {G : Gm} {X : Cx} {K : PySem.W.Frag} {F F' H H' : Hp} {ρ : En} {σ : L2.St} {e e2 e3 o : Expr} {es : List Expr} {pos p2 p p3 : Pos} {oa ob oc : Op1} {ta tb tc : TD} {t u : TTd} {tf : TF} {v : V} {x : PD}
end
section
variable {P : Program} {w : World} {K : PySem.W.Frag} {mg : Str → Option Value} {base : Heap} {k : Nat} {n : Str} {X : Cx} {p pos : Pos} {S : FSpec}
end
theorem pO [Pn] {X : Cx} {e : Expr} {t : Op1} (h : LO X e t) : PE X e (liftO X.K t) := h.p
theorem pD [Pn] {X : Cx} {e : Expr} {t : TD} (h : LD X e t) : PE X e (liftD X.K t) := h.p
theorem Cal.vac {P : Program} {w : World} {K : PySem.W.Frag} {mg : Str → Option Value} {base : Heap} {k : Nat} {n : Str} {st : Stmt} {ps : List Str} {S : FSpec} (D : Dn K mg n st ps) (no : ∀ args Q, ¬ S.sp args Q) : Cal P w K mg base k n ps S := by
  obtain ⟨f, fd, h1, h2, h3⟩ := D.ex
  have no' : ∀ vs H Q E, ¬ liftC K S vs H Q E := fun vs H Q E h => by
    obtain ⟨args, F, ios, n, Qd, _, _, _, h, _⟩ := h
    exact no _ _ h
  exact ⟨f, fd, ⟨fun vs H Q E h => absurd h (no' vs H Q E), fun A outer s H args us vs Q E _ _ _ _ _ h => absurd h (no' vs H Q E)⟩, h2, h1.kp, h3⟩
end DL
namespace DL
open PySem L2 PyProof.Rows
def lenS (z : Nat) : List Str → Nat
  | [] => 0
  | t :: r => t.length + 2 + lenS z r
theorem lenS_le {z : Nat} : ∀ {ts : List Str}, (∀ t ∈ ts, t.length ≤ z) → lenS z ts ≤ ts.length * (z + 2)
  | [], _ => by simp [lenS]
  | t :: r, h => by
    have h1 := h t List.mem_cons_self
    have h2 := lenS_le (ts := r) fun y hy => h y (List.mem_cons_of_mem _ hy)
    rw [lenS, List.length_cons, Nat.add_mul, Nat.one_mul]
    omega
theorem textFrom_le (z : Nat) : ∀ (ts : List Str) (k : Nat) (acc : Str), (textFrom k acc ts).length ≤ acc.length + lenS z ts
  | [], k, acc => by show acc.length ≤ _; omega
  | t :: r, k, acc => by
    have h := textFrom_le z r (k + 1) (acc ++ (if k > 0 then ", " else "" : String) ++ t)
    have e : textFrom k acc (t :: r) = textFrom (k + 1) (acc ++ (if k > 0 then ", " else "" : String) ++ t) r := rfl
    rw [e]
    rw [strLen_append, strLen_append] at h
    have : (Str.ofString (if k > 0 then ", " else "" : String)).length ≤ 2 := by split <;> decide
    rw [lenS]
    omega
theorem listText_le (z : Nat) (ts : List Str) : (listText ts).length ≤ 2 + lenS z ts := by
  have h := textFrom_le z ts 0 "["
  have e : (listText ts).length = (textFrom 0 "[" ts).length + 1 := by
    show (textFrom 0 "[" ts ++ "]").length = _
    rw [strLen_append]; rfl
  have : (Str.ofString "[").length = 1 := by decide
  omega
theorem join_le (z : Nat) : ∀ ts : List Str, (Str.join ", " ts).length ≤ lenS z ts
  | [] => by show 0 ≤ _; exact Nat.zero_le _
  | [x] => by show x.length ≤ x.length + 2 + 0; omega
  | x :: y :: r => by
    have h := join_le z (y :: r)
    have e : Str.join ", " (x :: y :: r) = x ++ ", " ++ Str.join ", " (y :: r) := rfl
    rw [e, strLen_append, strLen_append, lenS]
    have : (Str.ofString ", ").length = 2 := by decide
    omega
theorem tupleText_le (z : Nat) (ts : List Str) : (tupleText ts).length ≤ 3 + lenS z ts := by
  have h := join_le z ts
  unfold tupleText
  rw [strLen_append, strLen_append]
  have : (Str.ofString (if ts.length == 1 then ",)" else ")" : String)).length ≤ 2 := by split <;> decide
  have : (Str.ofString "(").length = 1 := by decide
  omega
structure Shw (n z : Nat) (d : PD) : Prop where
  nd : noDict d = true
  sh : shw d = true
  dp : d.depth ≤ n
  ln : d.shown.length ≤ z
theorem Shw.mono {n n' z z' : Nat} {d : PD} (h : Shw n z d) (h1 : n ≤ n') (h2 : z ≤ z') : Shw n' z' d := ⟨h.nd, h.sh, Nat.le_trans h.dp h1, Nat.le_trans h.ln h2⟩
theorem Shw.ok {n z : Nat} {d : PD} (h : Shw n z d) (h1 : n ≤ 60 := by decide) (h2 : z ≤ 16777216 := by decide) : noDict d = true ∧ shw d = true ∧ d.depth ≤ 60 ∧ d.shown.length ≤ sizeLine :=
  ⟨h.nd, h.sh, Nat.le_trans h.dp h1, by rw [sizeLine_eq]; exact Nat.le_trans h.ln h2⟩
theorem shownAll_map : ∀ xs : List PD, PyData.shownAll xs = xs.map PyData.shown
  | [] => rfl
  | x :: r => by rw [PyData.shownAll, shownAll_map r]; rfl
theorem Shw.int {n k : Nat} {i : Int} (h : i.natAbs < 2 ^ k) (hk : k ≤ 14000 := by decide) (h0 : 0 < k := by decide) : Shw n (k + 1) (.int i) := by
  refine ⟨rfl, ?_, Nat.zero_le _, ?_⟩
  · have z : (2 : Nat) ^ 14000 ≤ 10 ^ 4300 := by decide +kernel
    have : i.natAbs < 10 ^ 4300 := Nat.lt_of_lt_of_le h (Nat.le_trans (Nat.pow_le_pow_right (by decide) hk) z)
    exact decide_eq_true this
  · have := int_text_length_le h0 (log2_lt h h0)
    rw [PyData.shown, PySem.ofString_length]
    exact this
theorem Shw.non {n : Nat} : Shw n 4 .none := ⟨rfl, rfl, Nat.zero_le _, by rw [PyData.shown]; decide⟩
theorem Shw.bl {n : Nat} (b : Bool) : Shw n 5 (.bool b) := ⟨rfl, rfl, Nat.zero_le _, by rw [PyData.shown]; cases b <;> decide⟩
theorem Shw.str {n z : Nat} {x : Str} (h : (reprText x).length ≤ z) : Shw n z (.str x) := ⟨rfl, rfl, Nat.zero_le _, by rw [PyData.shown]; exact h⟩
theorem Shw.list {n z : Nat} {xs : List PD} (h : ∀ x ∈ xs, Shw n z x) : Shw (n + 1) (2 + xs.length * (z + 2)) (.list xs) := by
  refine ⟨?_, ?_, ?_, ?_⟩
  · rw [noDict, noDictA_map, List.all_eq_true]; exact fun x hx => (h x hx).nd
  · rw [shw, shwA_map, List.all_eq_true]; exact fun x hx => (h x hx).sh
  · simp only [PyData.depth]; exact Nat.succ_le_succ (depthAll_le fun x hx => (h x hx).dp)
  · rw [PyData.shown, shownAll_map]
    have a := listText_le z (xs.map PyData.shown)
    have b := lenS_le (z := z) (ts := xs.map PyData.shown) fun t ht => by
      obtain ⟨x, hx, rfl⟩ := List.mem_map.mp ht
      exact (h x hx).ln
    rw [List.length_map] at b
    omega
theorem Shw.tup {n z : Nat} {xs : List PD} (h : ∀ x ∈ xs, Shw n z x) : Shw (n + 1) (3 + xs.length * (z + 2)) (.tuple xs) := by
  refine ⟨?_, ?_, ?_, ?_⟩
  · rw [noDict, noDictA_map, List.all_eq_true]; exact fun x hx => (h x hx).nd
  · rw [shw, shwA_map, List.all_eq_true]; exact fun x hx => (h x hx).sh
  · simp only [PyData.depth]; exact Nat.succ_le_succ (depthAll_le fun x hx => (h x hx).dp)
  · rw [PyData.shown, shownAll_map]
    have a := tupleText_le z (xs.map PyData.shown)
    have b := lenS_le (z := z) (ts := xs.map PyData.shown) fun t ht => by
      obtain ⟨x, hx, rfl⟩ := List.mem_map.mp ht
      exact (h x hx).ln
    rw [List.length_map] at b
    omega
end DL
namespace DL
open PySem L2 PyProof.Rows
section
variable {X : Cx} {e e2 e3 : Expr} {pos : Pos} {ta tb tc : TD}
end
end DL
namespace DL
open PySem L2 PyProof.Rows
section
variable {X : Cx} {e : Expr} {pos : Pos} {ta : TD}
end
end DL
namespace DL
open PySem L2 PyProof.Rows
section
variable {X : Cx} {K : PySem.W.Frag} {F H : Hp}
end
end DL
namespace DL
open PySem L2 PyProof.Rows
section
variable {X : Cx} {K : PySem.W.Frag} {F H : Hp}
end
end DL
namespace DL
open PySem L2 PyProof.Rows
section
variable {X : Cx} {K : PySem.W.Frag} {F H : Hp}
end
end DL
namespace DL
open PySem L2 PyProof.Rows
section
variable {X : Cx} {K : PySem.W.Frag} {F H : Hp} {P : Program} {w : World}
variable {e : Expr} {p p2 pos pos2 : Pos} {tt : TAd}
end
end DL
namespace DL
open PySem L2 PyProof.Rows
section
variable {X : Cx} {K : PySem.W.Frag} {F H : Hp} {e o : Expr} {pos p : Pos} {oa ob : Op1} {tf : TF}
def valS : List (Str × Str) → Str → Option Str
  | [], _ => none
  | q :: r, k => if q.1 = k then some q.2 else valS r k
structure KdG (K : PySem.W.Frag) (w : World) (mg : Str → Option Value) (n : Str) (ps : List (Str × Str)) : Prop where
  ex : ∃ d, mg n = some (.ref d) ∧ ∀ z s, valS ps z = some s → KDct K w d z (.str s)
def dKd (ps : List (Str × Str)) (ob : Op1) : TD := fun ρ Q => ob.run ρ fun a ρ1 => res1 ρ1 a fun x => match x with
  | .str z => ∃ s, valS ps z = some s ∧ Q (.str s) ρ1
  | _ => False
theorem LD.kd [Pn] {n : Str} {ps : List (Str × Str)} (h : KdG X.K X.w X.mg n ps) (hg : Gl X n) (he : LO X e ob) (hs : PlainIx e) (hd : (n == ("__debug__" : Str)) = false := by decide) : LD X (.Subscript (.Name n p) e pos) (dKd ps ob) := by
  obtain ⟨d, hm, hk⟩ := h.ex
  exact ⟨peImp (pe_ix ix_kdict (pe_glob (v := .ref d) hg hm rfl hd) he.p hs) fun σ H Q ⟨G, ρ, F, Q', R, q, c⟩ =>
    ⟨G, ρ, F, _, R, q, fun a ρ1 v H1 F1 h1 R1 s1 ax => by
      obtain ⟨x', h2, dx⟩ := res1_dr R1 ax h1
      split at h2
      · obtain ⟨s, e1, h3⟩ := h2
        exact ⟨d, _, .str s, rfl, dx.str, hk _ s e1, c _ _ _ _ _ h3 R1 s1 (.str s)⟩
      · exact False.elim h2⟩⟩
def dIxF (t : TF) (oa : Op1) : TD := fun ρ Q => t ρ fun l ρ1 => match l with
  | .dk none kvs => oa.run ρ1 fun a ρ2 => res1 ρ2 a fun y => ∃ k z, keyP y = some k ∧ valP kvs k = some z ∧ Q z ρ2
  | _ => False
theorem LD.ixF [Pn] (hu : X.A.units + 1 < cLine) (h : LF X o tf) (ha : LO X e oa) (hs : NoSl e) : LD X (.Subscript o e pos) (dIxF tf oa) :=
  ⟨peImp (pe_dget hu h.p ha.p hs) fun σ H Q ⟨G, ρ, F, Q', R, q, c⟩ => ⟨G, ρ, F, _, R, q, fun l ρ1 v H1 F1 h1 R1 s1 r1 => by
    split at h1
    · rename_i kvs
      obtain ⟨G', Rp, back⟩ := r1.keep R1
      obtain ⟨a, ev, _, ⟨nf, ow, ob', eo, ok⟩, _⟩ := r1
      refine ⟨G', ρ1, F1, _, Rp, h1, fun x ρ2 w H2 F2 h2 R2 s2 ax => ?_⟩
      obtain ⟨R4, r4, _⟩ := back R2 s2
      obtain ⟨y', h4, dx⟩ := res1_dr R4 ax h2
      obtain ⟨k, z, hk, hz, h6⟩ := h4
      obtain ⟨b, ev2, _, ⟨nf2, ow2, ob2, eo2, ok2⟩, _⟩ := r4
      have eab : a = b := by rw [ev] at ev2; exact V.ref.inj ev2
      subst eab
      cases ob2 <;> first | exact False.elim ok2 | skip
      rename_i us2
      have ok2 : DKv X.K F2 us2 kvs := ok2
      rcases ok2.val k with ⟨e1, e2⟩ | ⟨v', x', e1, e2, d'⟩
      · rw [hz] at e2; cases e2
      · rw [hz] at e2
        cases e2
        exact ⟨a, v', ev, .inl ⟨us2, k, .inl eo2, keyP_v hk dx, e1.symm⟩, c _ _ _ _ _ h6 R4 (s1.trans s2) d'⟩
    · exact False.elim h1⟩⟩
end
end DL
namespace DL
open PySem L2 PyProof.Rows
section
variable {X : Cx} {K : PySem.W.Frag} {F H : Hp}
def cInS (neg : Bool) : F2
  | .str a, .str b, k => k (.bool (if neg then !(!(Builtin.Str.occurrences b a 0 b.length 1).isEmpty) else !(Builtin.Str.occurrences b a 0 b.length 1).isEmpty))
  | _, _, _ => False
theorem ok_inS : Op2Ok K (cInS false) (fun x y H Q => ∃ a b, x = .str a ∧ y = .str b ∧ Q (.bl (!(Builtin.Str.occurrences b a 0 b.length 1).isEmpty)) H) := by
  intro F H vx vy x y k Q s dx dy h c
  unfold cInS at h
  split at h
  · rw [dx.str, dy.str]
    exact ⟨_, _, rfl, rfl, c _ _ F H h (Grow.refl s) (.bl _)⟩
  · exact False.elim h
theorem ok_notInS : Op2Ok K (cInS true) (fun x y H Q => ∃ a b, x = .str a ∧ y = .str b ∧ Q (.bl (!(!(Builtin.Str.occurrences b a 0 b.length 1).isEmpty))) H) := by
  intro F H vx vy x y k Q s dx dy h c
  unfold cInS at h
  split at h
  · rw [dx.str, dy.str]
    exact ⟨_, _, rfl, rfl, c _ _ F H h (Grow.refl s) (.bl _)⟩
  · exact False.elim h
end
def cl (s : Str) : List Nat := s.cps.toList
theorem cl_app (s t : Str) : cl (s ++ t) = cl s ++ cl t := by
  show (s.cps ++ t.cps).toList = _
  simp [cl]
theorem cl_len (s : Str) : (cl s).length = s.length := by
  show s.cps.toList.length = s.cps.size
  simp
theorem sub_iff (x y : Str) (i : Nat) : Builtin.Str.subAt x y i = true ↔ ((cl x).drop i).take y.length = cl y := by
  unfold Builtin.Str.subAt cl
  rw [beq_iff_eq, ← Array.toList_inj, Array.toList_extract, List.extract_eq_take_drop]
  rw [show i + y.length - i = y.length by omega]
theorem occ_iff (x y : Str) : (!(Builtin.Str.occurrences x y 0 x.length 1).isEmpty) = true ↔ ∃ A B, cl x = A ++ (cl y ++ B) := by
  rw [StrLaws.found_iff]
  refine ⟨fun ⟨i, h1, h2⟩ => ?_, fun ⟨A, B, h⟩ => ?_⟩
  · rw [sub_iff] at h2
    refine ⟨(cl x).take i, ((cl x).drop i).drop y.length, ?_⟩
    rw [← h2, List.take_append_drop, List.take_append_drop]
  · have hl := congrArg List.length h
    rw [cl_len, List.length_append, List.length_append, cl_len] at hl
    refine ⟨A.length, by omega, ?_⟩
    rw [sub_iff, h, List.drop_left, ← cl_len y, List.take_left]
end DL
namespace DL
open PySem L2 PyProof.Rows
open PySem.AutoSeq1 in
theorem ext_tup (l : Addr) (xs : Array Value) (n : Nat) (b : Addr) (ys : Array Value) (m : Nat) (dd : Option Addr) (sl : Array (Option Value)) (h0 : ¬(!xs.isEmpty && Builtin.List.listTooLong (xs.size + ys.size)) = true) (h1 : xs.size ≤ sizeLine) (h2 : xs.size + ys.size ≤ sizeLine + 1) :
    Meets (Builtin.«list.extend» ⟨[.ref l, .ref b], []⟩) (fun _ R s => s.heap.get? l = some ⟨.type "list", none, .seq xs n, #[]⟩ ∧ s.heap.get? b = some ⟨.type "tuple", dd, .seq ys m, sl⟩ ∧
      R (.ok (.ret Value.none)) { s with heap := s.heap.update l (Obj.mapSeq fun x => x ++ ys), toks := s.toks }) :=
  .of_wp fun prog w A R s z => by
    obtain ⟨hp, gg, dr, tk, os⟩ := s
    obtain ⟨zl, zb, zq⟩ := z
    have w1 := AutoSeq1.idx_int
    have w2 := AutoSeq1.sub_tuple_tuple
    have w3 := AutoSeq1.sub_list_list
    have w4 := AutoSeq1.sub_tuple_list
    have w5 := AutoSeq1.sub_list_tuple
    have w6 : (xs ++ ys).size ≤ sizeLine + 1 := by rw [Array.size_append]; exact h2
    wp_walk using (wpAny_updateSeq zl rfl (hz := h1) (_hz' := w6)), wpAny_loadPart' zl, wpAny_loadPart' zb
    exact ⟨_, rfl, zq⟩
section
variable {X : Cx} {K : PySem.W.Frag} {F H : Hp} {e : Expr} {pos : Pos} {oa : Op1}
def rExtT (K : PySem.W.Frag) : V → List V → Hp → VK → Prop := fun x vs H Q => ∃ l b xs zs, x = .ref l ∧ vs = [.ref b] ∧ H l = some (.lst xs) ∧ SqT K H b zs ∧ xs.length + zs.length ≤ sizeLine ∧ Q .non (upd H l (.lst (xs ++ zs)))
theorem mt_extT : MtR X "list.extend" (rExtT X.K) := by
  rintro pins s σ H x vs v us Q I rx rv ⟨l, b, xs, zs, rfl, rfl, hH, hB, hz, q⟩
  cases rx
  obtain ⟨u1, rfl, ru⟩ := rv.one
  cases ru
  obtain ⟨z, is1, n, r, hl, e⟩ := I.lstM hH
  obtain ⟨is2, r2, ⟨⟨c2, dd, dt, sl⟩, e2, hc, m, hd⟩, _⟩ := I.tuple hB
  simp only at hc hd
  subst hc hd
  have hl2 := r2.length
  have hsz : is1.toArray.size + is2.toArray.size ≤ sizeLine := by simp only [List.size_toArray]; omega
  have hlong : ¬ (!is1.toArray.isEmpty && Builtin.List.listTooLong (is1.toArray.size + is2.toArray.size)) = true := by
    rw [notLongL hsz, Bool.and_false]; exact Bool.false_ne_true
  refine call_meets F.slot_list_extend ⟨_, e, rfl⟩ F.entry_list_extend (F.args_list_extend_2 _ _) (ext_tup l is1.toArray n b is2.toArray m dd sl hlong (by simp only [List.size_toArray]; omega) (by omega))
    ⟨e, e2, .non, _, I.lset (its' := is1 ++ is2) hH e (by simp) (r.append r2) ?_, rfl, q⟩
  rw [List.length_append]; exact hz
def sExtT (s : Nat) (o : Op1) : TSt := fun D ρ => match ρ[s]? with
  | some (some (.ls _ _)) => o.run ρ fun a ρ1 => res1 ρ1 a fun y => (match y, ρ1[s]? with
    | .tuple ys, some (some (.ls p xs)) => xs.length + ys.length ≤ sizeLine ∧ D.nx (ρ1.set s (some (.ls p (xs ++ ys))))
    | _, _ => False)
  | _ => False
theorem LS.extT [Pn] {s : Nat} (h : PE X e (tBM X.K "list" (rExtT X.K) (tVar s) (tCons (liftO X.K oa) tNil))) (hs : swapsWith e none pos.line X.env = pure false := by rfl) : LS X (.Expr e pos) (sExtT s oa) := ⟨psImp (ps_expr h hs) fun D σ H ⟨G, ρ, F, D', R, q, k⟩ => by
  unfold sExtT at q
  split at q
  · rename_i p0 ys er
    obtain ⟨a, us, es, ea, _⟩ := R.own_ls er
    refine ⟨_, es, .inl ⟨rfl, us, SqL.of ea⟩, G, ρ, F, _, R, q, fun av ρ1 v H1 F1 h1 R1 s1 d => ?_⟩
    obtain ⟨y, h2, dy⟩ := res1_dr R1 d h1
    split at h2
    · rename_i zs p xs er1
      obtain ⟨b, vs, es1, eb, dv⟩ := R1.own_ls er1
      rw [es] at es1
      have eab : a = b := by simpa using es1
      subst eab
      obtain ⟨c, ws, rfl, ec, dw⟩ := dy.tup R1.fh
      refine ⟨a, c, vs, ws, rfl, rfl, eb, ec, by rw [dv.length, dw.length]; exact h2.1, k.nx _ _ _ _ h2.2 ?_ s1⟩
      exact R1.write er1 rfl es (m := .ls p (xs ++ zs)) (dv.append dw) rfl
    · exact False.elim h2
  · exact False.elim q⟩
end
end DL
namespace DL
open PySem L2 PyProof.Rows
section
variable {X : Cx} {e o : Expr} {y : Str} {pos p p2 cpos yp : Pos} {ta : TD} {s t : Nat}
theorem keys_of {K : PySem.W.Frag} {F : Hp} : ∀ {ks : List Key} {vs : List V}, DfA K F vs (ks.map keyD) → vs = ks.map kV
  | [], vs, h => by cases h; rfl
  | k :: r, vs, h => by
    rw [List.map_cons] at h
    cases h with
    | cons a b =>
      rw [keys_of b, List.map_cons]
      congr 1
      cases k with
      | inl i =>
        have a : Df K F _ (.int i) := a
        cases a; rfl
      | inr x =>
        have a : Df K F _ (.str x) := a
        cases a; rfl
end
end DL
namespace DL
open PySem L2 PyProof.Rows
section
variable {X : Cx} {K : PySem.W.Frag} {F H : Hp}
def rCat0 (K : PySem.W.Frag) : R2 := fun x y H Q => ∃ a b ys, x = .ref a ∧ y = .ref b ∧ SqT K H a [] ∧ SqT K H b ys ∧ Q (.ref b) H
theorem op_cat0 : OpR X (binaryOp .Add) (rCat0 X.K) := fun pins z σ H x y u1 u2 Q I rx ry ⟨a, b, ys, ex, ey, ha, hb, q⟩ => by
  subst ex ey
  cases rx
  cases ry
  obtain ⟨l1, v1, t1, _⟩ := I.tuple ha
  obtain ⟨l2, _, t2, _⟩ := I.tuple hb
  have none_ : l1 = [] := v1.nil_iff.mpr rfl
  obtain ⟨⟨k1, e1, w1, s1⟩, g1, c1, n1, d1⟩ := id t1
  obtain ⟨⟨k2, e2, w2, s2⟩, g2, c2, n2, d2⟩ := id t2
  simp only at c1 d1 c2 d2
  subst c1 d1 c2 d2
  refine concat_meets ⟨_, g1, rfl⟩ ⟨_, g2, rfl⟩ noFill_tuple_add seq_tuple_add PySem.F.slot_tuple_add PySem.F.entry_tuple_add (PySem.F.args_tuple_add_2 _ _) (tuple_addW0 a b l1.toArray l2.toArray n1 n2 e1 e2 s1 s2 (by simp [none_])) ?_
  exact ⟨g1, g2, ⟨.ref b, H, I, rfl, q⟩⟩
def bAddT : F2
  | .tuple xs, .tuple ys, k => xs.length + ys.length ≤ sizeLine ∧ k (.tuple (xs ++ ys))
  | _, _, _ => False
def rAddT (K : PySem.W.Frag) : R2 := fun x y H Q => rCatT K x y H Q ∨ rCat0 K x y H Q
theorem op_addT : OpR X (binaryOp .Add) (rAddT X.K) := op_catT.or op_cat0
theorem ok_addT : Op2Ok K bAddT (rAddT K) := by
  intro F H vx vy x y k Q s dx dy h c
  unfold bAddT at h
  split at h
  · obtain ⟨a, vs, rfl, q, d⟩ := dx.tup s
    obtain ⟨b, us, rfl, q2, d2⟩ := dy.tup s
    obtain ⟨h2, h3⟩ := h
    by_cases ne : vs = []
    · subst ne
      cases d
      rw [List.nil_append] at h3
      refine .inr ⟨a, b, us, rfl, rfl, q, q2, ?_⟩
      cases dy with
      | f dy => exact c _ _ F H h3 (Grow.refl s) dy
    · refine .inl ⟨a, b, vs, us, rfl, rfl, q, q2, ne, by rw [d.length, d2.length]; exact h2, ?_, ?_⟩
      · intro e
        have : us = [] := e
        subst this
        cases d2
        rw [List.append_nil] at h3
        cases dx with
        | f dx => exact c _ _ F H h3 (Grow.refl s) dx
      · intro _ p hp
        have g := Grow.frozen s hp (.tup (vs ++ us))
        exact c _ _ _ _ h3 g (.tup (SqT.of upd_same) ((d.append d2).mono g.ff))
  · exact False.elim h
end
end DL
namespace DL
open PySem L2 PyProof.Rows
section
variable {X : Cx} {e o e2 : Expr} {pos p p2 apos cpos : Pos} {ta : TD} {oa ob : Op1} {s : Nat}
end
end DL
namespace DL
open PySem L2 PyProof.Rows
section
variable {X : Cx} {K : PySem.W.Frag} {F H : Hp} {e o : Expr} {pos p2 : Pos} {ta : TD} {oa : Op1} {s : Nat} {C : Addr} {f : Str}
def putFP (f : Str) (x : PD) : List (Str × PD) → List (Str × PD)
  | [] => [(f, x)]
  | (g, y) :: r => if g = f then (f, x) :: r else (g, y) :: putFP f x r
theorem DKv.putF {v : V} {x : PD} (hx : Df K F v x) : ∀ {us : List (Str × V)} {fs : List (Str × PD)}, DKv K F us fs → DKv K F (L2.putF f v us) (putFP f x fs)
  | [], fs, h => by cases h; exact .cons ⟨rfl, hx⟩ .nil
  | (g, u) :: us, fs, h => by
    cases h with
    | @cons _ q _ r a b =>
      obtain ⟨g', y⟩ := q
      obtain ⟨a1, a2⟩ := a
      have a1 : g = g' := a1
      subst a1
      have ih := DKv.putF hx b
      unfold L2.putF putFP
      by_cases hg : g = f
      · rw [if_pos hg, if_pos hg]; exact .cons ⟨hg, hx⟩ b
      · rw [if_neg hg, if_neg hg]; exact .cons ⟨rfl, a2⟩ ih
def sSetF (C : Addr) (s : Nat) (f : Str) (t : TD) : TSt := fun D ρ => t ρ fun x ρ1 => match ρ1[s]? with
  | some (some (.ob p B fs)) => B = C ∧ fs.length < 1000 ∧ D.nx (ρ1.set s (some (.ob p C (putFP f x fs))))
  | _ => False
theorem LS.setF [Pn] (hc : Cls X.K C) (hn : NoAttr X.K C f) (h : LD X e ta) (ho : PE X o (tVar s)) (hs : swapsWith e (some (.Attribute o f p2)) pos.line X.env = pure false := by rfl) : LS X (.Assign [.Attribute o f p2] e pos) (sSetF C s f ta) :=
  ⟨psImp (ps_fld ho h.p hs) fun D σ H ⟨G, ρ, F, D', R, q, k⟩ => ⟨G, ρ, F, _, R, q, fun x ρ1 v H1 F1 h1 R1 s1 d => by
    split at h1
    · rename_i p B fs er
      obtain ⟨rfl, hl, h2⟩ := h1
      obtain ⟨a, es, nf, ow, ob, eo, ok⟩ := R1.at_ er rfl
      cases ob <;> first | exact False.elim ok | skip
      rename_i B' dx us
      obtain ⟨rfl, ok⟩ := ok
      exact ⟨_, es, a, _, dx, us, rfl, eo, hc, hn, by rw [Paired.length ok]; exact hl, k.nx _ _ _ _ h2 (R1.write er rfl es (m := .ob p _ (putFP f x fs)) (o := .ins _ dx (L2.putF f v us)) ⟨rfl, DKv.putF d ok⟩ rfl) s1⟩
    · exact False.elim h1⟩⟩
def fldP : List (PD × PD) → Str → Option PD
  | [], _ => none
  | (.str k, y) :: r, f => if k = f then some y else fldP r f
  | _ :: r, f => fldP r f
theorem fld_df : ∀ {us : List (Str × V)} {es : List (PD × PD)}, DfF K F us es → ∀ {y : PD}, fldP es f = some y → ∃ v, us.lookup f = some v ∧ Df K F v y
  | [], es, h, y, e => by cases h; cases e
  | (k, u) :: us, es, h, y, e => by
    cases h with
    | @cons _ _ _ d ds a b =>
      by_cases hk : k = f
      · subst hk
        have e : (if k = k then some d else fldP ds k) = some y := e
        rw [if_pos rfl] at e
        cases e
        exact ⟨u, by simp [List.lookup], a⟩
      · have e : (if k = f then some d else fldP ds f) = some y := e
        rw [if_neg hk] at e
        obtain ⟨v, h1, h2⟩ := fld_df b e
        refine ⟨v, ?_, h2⟩
        have nb : (f == k) = false := beq_eq_false_iff_ne.mpr (Ne.symm hk)
        simp only [List.lookup, nb]
        exact h1
end
end DL
namespace DL
open PySem L2 PyProof.Rows
section
variable {X : Cx} {K : PySem.W.Frag} {G : Gm} {ρ : En} {σ : L2.St} {F H : Hp} {l : Lc} {v : V} {C : Addr}
theorem Rel.more [Pn] (R : Rel K G ρ F σ H) (k : RsOk K G F H ρ σ l v) : Rel K G ((ρ ++ [none]).set ρ.length (some l)) F ((σ ++ [none]).set ρ.length (some v)) H := by
  have ln := R.len
  have low : ∀ {j : Nat} {m : Lc}, (ρ ++ [none])[j]? = some (some m) → ρ[j]? = some (some m) ∧ (σ ++ [none])[j]? = σ[j]? := fun {j m} e => by
    rcases Nat.lt_or_ge j ρ.length with h | h
    · rw [List.getElem?_append_left h] at e
      exact ⟨e, List.getElem?_append_left (by omega)⟩
    · rw [List.getElem?_append_right h] at e
      rcases Nat.eq_zero_or_pos (j - ρ.length) with z | z
      · rw [z] at e; cases e
      · rw [List.getElem?_eq_none (by simp; omega)] at e; cases e
  have R2 : Rel K G (ρ ++ [none]) F (σ ++ [none]) H := R.weak (by simp; exact ln) fun i m e => low e
  have k2 : RsOk K G F H (ρ ++ [none]) (σ ++ [none]) l v := by
    have fr : ∀ {a : Addr}, Frs K G F H ρ σ l a → Frs K G F H (ρ ++ [none]) (σ ++ [none]) l a := fun {a} n =>
      ⟨fun j m e hm q => n.hf j m (low e).1 hm (by rw [← (low e).2]; exact q), n.hn.sub fun j m e => (low e).1, fun b xs hb => ⟨(n.ns b xs hb).1, (n.ns b xs hb).2.1, fun j m e hm q => (n.ns b xs hb).2.2.1 j m (low e).1 hm (by rw [← (low e).2]; exact q), (n.ns b xs hb).2.2.2.sub fun j m e => (low e).1⟩⟩
    cases l with
    | d x => exact k
    | sc x => exact k
    | ls p xs => obtain ⟨a, e1, e2, z, n⟩ := k; exact ⟨a, e1, e2, z, fr n⟩
    | dk p xs => obtain ⟨a, e1, e2, z, n⟩ := k; exact ⟨a, e1, e2, z, fr n⟩
    | dt p xs => obtain ⟨a, e1, e2, z, n⟩ := k; exact ⟨a, e1, e2, z, fr n⟩
    | ob p B xs => obtain ⟨a, e1, e2, z, n⟩ := k; exact ⟨a, e1, e2, z, fr n⟩
    | nb p B xs ns => obtain ⟨a, e1, e2, z, n⟩ := k; exact ⟨a, e1, e2, z, fr n⟩
    | ln p xs => obtain ⟨a, e1, e2, z, n⟩ := k; exact ⟨a, e1, e2, z, fr n⟩
  exact R2.store ρ.length k2.slot.1 k2.slot.2 k2.slotN
def fMake (C : Addr) (S : FSpec) (dd : List PD) (tt : TAd) : TF := fun ρ Q => tt ρ fun as ρ1 => resFA ρ1 as fun xs =>
  S.sp (.ob (some 0) C [] :: (xs ++ dd).map .d) fun l outs => l = .d .none ∧ ∃ fs, outs = [.ob (some 0) C fs] ∧ Q (.ob none C fs) ρ1
theorem args_d {ios : List Addr} : ∀ {vs : List V} {xs : List PD}, DfA K F vs xs → ArgsOk K F H ios (xs.map .d) vs
  | [], [], _ => .nil
  | _ :: _, [], d => by cases d
  | [], _ :: _, d => by cases d
  | v :: vs, x :: xs, d => by
    cases d with
    | cons a b => exact .cons a (args_d b)
theorem tags_d (xs : List PD) : (xs.map Lc.d).filterMap Lc.tag = [] := by
  induction xs with
  | nil => rfl
  | cons x r ih => exact ih
theorem nio_d {C : Addr} {k : Nat} {b : Addr} {xs : List PD} (h : (k, b) ∈ nioOf (.ob (some 0) C [] :: xs.map .d)) : False := by
  obtain ⟨i, l, ys, e1, _, e3⟩ := nioOf_mem h
  cases i with
  | zero => simp at e1; subst e1; cases e3
  | succ i =>
    simp at e1
    obtain ⟨x, _, rfl⟩ := e1
    cases e3
theorem make_core [Pn] {S : FSpec} {Q : VK} {Q' : Lc → En → Prop} {xs : List PD} {vs : List V} {Qd : Lc → List Lc → Prop} (R1 : Rel K G ρ F σ H) (d : DfA K F vs xs) (h2 : S.sp (.ob (some 0) C [] :: xs.map .d) Qd)
    (hq : ∀ l outs, Qd l outs → l = .d .none ∧ ∃ m, m.own = true ∧ outs = [m] ∧ Q' (m.retag none) ρ) (c : ∀ l v H' F', Q' l ρ → Rel K G ρ F' σ H' → Same F F' → RsOk K G F' H' ρ σ l v → Q v H') :
    ∀ x dx, H x = none → H dx = none → dx ≠ x → liftC K S (.ref x :: vs) (upd (upd H dx (.own x)) x (.ins C dx [])) (fun v H2 => v = .non ∧ Q (.ref x) H2) E0 := by
  intro x dx hx hdx hne
  have Ra : Rel K G ρ F σ (upd H dx (.own x)) := R1.grow (Grow.owned R1.fh hdx _)
  have hx2 : (upd H dx (.own x)) x = none := by rw [upd_ne (Ne.symm hne)]; exact hx
  obtain ⟨Rb, kb⟩ := fresh_ok (l := .ob none C []) (o := .ins C dx []) Ra hx2 ⟨rfl, .nil⟩ rfl
  have fx : F x = none := R1.fh.free hx
  refine ⟨.ob (some 0) C [] :: xs.map .d, F, [x], 1, Qd, Rb.fh, .cons ⟨x, 0, rfl, rfl, rfl, fx, ⟨.ins C dx [], upd_same, ⟨rfl, .nil⟩⟩, fun b xs hb => by cases hb⟩ (args_d d), ⟨by simp, fun a ha => ?_, ?_, Nat.le_refl _, fun k b z => (nio_d z).elim, fun i j l m b zs ys e1 _ h1 _ => ?_⟩, h2, fun r outs v F' H' q' P => ?_⟩
  · rw [List.mem_singleton.mp ha, upd_same]; simp
  · show tags _ = List.range 1
    unfold tags
    rw [List.filterMap_cons]
    show 0 :: (xs.map Lc.d).filterMap Lc.tag = List.range 1
    rw [tags_d]
    rfl
  · exfalso
    cases i with
    | zero => simp at e1; subst e1; cases h1
    | succ i =>
      simp at e1
      obtain ⟨x, _, rfl⟩ := e1
      cases h1
  · obtain ⟨rfl, m, ho, rfl, q2⟩ := hq _ _ q'
    have hv : v = .non := by
      have : Df K F' v .none := P.rs
      cases this
      rfl
    refine ⟨hv, ?_⟩
    have Rc := Rb.more kb
    have ln := Rb.len
    have at1 : ((σ ++ [none]).set ρ.length (some (.ref x)))[ρ.length]? = some (some (V.ref x)) := by rw [List.getElem?_set_self (by simp; omega)]
    have at2 : ((ρ ++ [none]).set ρ.length (some (.ob none C [])))[ρ.length]? = some (some (Lc.ob none C [])) := by rw [List.getElem?_set_self (by simp)]
    obtain ⟨R2, _⟩ := Rc.call (is := [ρ.length]) (post := [x]) rfl (by simp) (fun j i e => by
      have : j = 0 ∧ i = ρ.length := by
        cases j with
        | zero => simp at e; exact ⟨rfl, e.symm⟩
        | succ j => simp at e
      obtain ⟨rfl, rfl⟩ := this
      exact ⟨x, _, rfl, at1, at2, rfl⟩) ⟨[], rfl, fun b hb => by cases hb⟩ (fun k b z => (nio_d z).elim) P
    have tg : tagAt ((ρ ++ [none]).set ρ.length (some (Lc.ob none C []))) ρ.length = none := by unfold tagAt; rw [at2]; rfl
    have e0 : putO ((ρ ++ [none]).set ρ.length (some (Lc.ob none C []))) ((ρ ++ [none]).set ρ.length (some (Lc.ob none C []))) [ρ.length] [m] = ((ρ ++ [none]).set ρ.length (some (Lc.ob none C []))).set ρ.length (some (m.retag none)) := by
      show ((ρ ++ [none]).set ρ.length (some (Lc.ob none C []))).set ρ.length (some (m.retag (tagAt _ ρ.length))) = _
      rw [tg]
    rw [e0] at R2
    have at3 : (((ρ ++ [none]).set ρ.length (some (Lc.ob none C []))).set ρ.length (some (m.retag none)))[ρ.length]? = some (some (m.retag none)) := by rw [List.getElem?_set_self (by simp)]
    have ho2 : (m.retag none).own = true := by rw [Lc.retag_own]; exact ho
    obtain ⟨a, ea, za⟩ := R2.at_ at3 ho2
    have eax : a = x := by rw [at1] at ea; simpa using ea.symm
    subst eax
    have low : ∀ (j : Nat) (n : Lc), ρ[j]? = some (some n) → (((ρ ++ [none]).set ρ.length (some (Lc.ob none C []))).set ρ.length (some (m.retag none)))[j]? = some (some n) ∧ σ[j]? = ((σ ++ [none]).set ρ.length (some (V.ref a)))[j]? := fun j n e => by
      have hj : j < ρ.length := (List.getElem?_eq_some_iff.mp e).1
      rw [List.getElem?_set_ne (by omega), List.getElem?_set_ne (by omega), List.getElem?_append_left hj, List.getElem?_set_ne (by omega), List.getElem?_append_left (by omega)]
      exact ⟨e, rfl⟩
    have R3 : Rel K G ρ F' σ H' := R2.weak ln low
    refine c _ _ _ _ q2 R3 P.ff ((RsOk.ref_own ho2).mpr ⟨a, rfl, Lc.retag_tag _ _ ho, za, ⟨fun j n e hm z => ?_, (R2.noN_at at3 ho2 at1).sub fun j n e => (low j n e).1, fun b ys hb => ?_⟩⟩)
    · have hj : j < ρ.length := (List.getElem?_eq_some_iff.mp e).1
      have lj := low j n e
      have := R2.ds j ρ.length n (m.retag none) (.ref a) lj.1 at3 hm ho2 (by rw [← lj.2]; exact z) at1
      omega
    · obtain ⟨n1, n2⟩ := R2.ns _ _ b ys at3 hb
      refine ⟨n1, fun z => (n2 _ _ at3).1 ho2 (by rw [at1, z]), fun j n e hm z => (n2 j n (low j n e).1).1 hm (by rw [← (low j n e).2]; exact z), fun j n zs e hz => ?_⟩
      have hj : j < ρ.length := (List.getElem?_eq_some_iff.mp e).1
      have := (n2 j n (low j n e).1).2 zs hz
      omega
theorem tMake_of [Pn] {S : FSpec} {tt : TAd} {n : Nat} {Q : VK} {dd : List PD} {dvs : List V} (hdd : ∀ F : Hp, DfA K F dvs dd) (h : liftF K (fMake C S dd tt) σ H Q) : tMake C (liftC K S) dvs E0 (liftA K n tt) σ H Q := by
  obtain ⟨G, ρ, F, Q', R, q, c⟩ := h
  refine ⟨G, ρ, F, _, R, q, fun as ρ1 vs H1 F1 h1 hl R1 s1 av => ?_⟩
  obtain ⟨xs, h2, d⟩ := resFA_df R1 av h1
  exact make_core R1 (d.append (hdd _)) h2 (fun l outs hq => by
    obtain ⟨h1, fs, h2, h3⟩ := hq
    exact ⟨h1, _, rfl, h2, h3⟩) fun l v H' F' hq R' s' r => c l ρ1 v H' F' hq R' (s1.trans s') r
theorem makeG {CX : CXT} {k : Nat} {f : Addr} {fd : FuncData} {ps : List Str} {sp : Sp} {E : XK} {pins : List (Addr × Obj)} {st : Shared} {Q : VK} {us ds : List Value} {vs dvs : List V} (M : Mk X.K C f) (Gd : FnG X.prog X.w X.K X.mg X.base CX k f fd ps sp) (hr : Room (k + 1) X.A) (hgd : X.A.guards = some [])
    (hb : Binds X.K fd ps ds) (hd : Vals dvs ds) (hx : Passes CX X E) (I : Inv X pins σ H st) (r : Vals vs us)
    (h : ∀ x dx, H x = none → H dx = none → dx ≠ x → sp (.ref x :: (vs ++ dvs)) (upd (upd H dx (.own x)) x (.ins C dx [])) (fun v H2 => v = .non ∧ Q (.ref x) H2) E) :
    wpAny (model X.prog X.w) X.A (call (.ref C) us) (EP X pins σ Q) X.xe st := by
  have want := h (st.heap.objs.size + 1) st.heap.objs.size (I.hok.fresh (Nat.le_succ _)) (I.hok.fresh (Nat.le_refl _)) (Nat.ne_of_lt (Nat.lt_succ_self _))
  have I2 := Inv.made (C := C) I
  have rr : Vals (V.ref (st.heap.objs.size + 1) :: (vs ++ dvs)) (Value.ref (st.heap.objs.size + 1) :: (us ++ ds)) := .cons rfl (r.append hd)
  have ln : (Value.ref (st.heap.objs.size + 1) :: us ++ ds).length = ps.length := rr.length.symm.trans (Gd.len _ _ _ _ want)
  have run := Gd.run _ X.stack _ _ ⟨Value.ref (st.heap.objs.size + 1) :: us, []⟩ (Value.ref (st.heap.objs.size + 1) :: (us ++ ds)) _ _ E (hr.make C us []) hgd (I2.env0.make C us []) (hb _ (Value.ref (st.heap.objs.size + 1) :: us) I2.kIn ln) rr want
  refine wpAny_call (make_map (f := f) I.kIn M.makes M.init (beq_iff_eq.mp M.fn) (codeAny_mono run fun res z hz => ?_))
  rcases res with err | fl
  · exact hx pins σ _ _ err z I2 hz
  · cases fl with
    | ret u =>
      obtain ⟨v, H', J, rv, ev, q⟩ := I2.after hz
      subst ev
      exact ⟨rv, ⟨.ref (st.heap.objs.size + 1), H', J, rfl, q⟩⟩
    | next => cases hz
    | brk => cases hz
    | cont => cases hz
theorem LF.make [Pn] {k : Nat} {f : Addr} {fd : FuncData} {ps : List Str} {S : FSpec} {n : Str} {p pos : Pos} {e : Expr} {es : List Expr} {tt : TAd} {dd : List PD} {dvs : List V} {ds : List Value} (M : Mk X.K C f) (Gd : FnG X.prog X.w X.K X.mg X.base CX0 k f fd ps (liftC X.K S)) (hr : Room (k + 1) X.A) (hgd : X.A.guards = some []) (hg : Gl X n) (hm : X.mg n = some (.ref C))
    (hb : Binds X.K fd ps ds) (hv : Vals dvs ds) (hdd : ∀ F : Hp, DfA X.K F dvs dd) (ha : LA X (e :: es) tt) (hdb : (n == ("__debug__" : Str)) = false := by decide) (he : starEach (e :: es) X.env = (false, eval e X.env) :: starEach es X.env := by rfl) (hpl : (backTo pos (starEach es X.env)).any (·.1) = false := by rfl) :
    LF X (.Call (.Name n p) (e :: es) [] pos) (fMake C S dd tt) :=
  ⟨peImp (t := tMake C (liftC X.K S) dvs E0 (liftA X.K (e :: es).length tt)) ⟨fun pins st σ H Q I h => wpAny_Call_Name_kw (ld_glob I hg hm (PySem.W.callWith_K (h₀ := X.base) I.ok.mod.kin M.kp (thn (ha.p.run pos pins st σ H _ I h) fun us s1 ⟨vs, H1, I1, r, q⟩ => ⟨I1.kIn, makeG M Gd hr hgd hb hv pass0 I1 r q⟩) he hpl) hdb)⟩ fun σ H Q h => tMake_of hdd h⟩
end
end DL
namespace DL
open PySem L2 PyProof.Rows
section
variable {X : Cx} {K : PySem.W.Frag} {σ : L2.St} {F H : Hp} {C : Addr}
end
end DL
namespace DL
open PySem L2 PyProof.Rows StX
section
variable {X : Cx} {K : PySem.W.Frag} {σ : L2.St} {F H : Hp} {C : Addr}
end
end DL
namespace DL
open PySem L2 PyProof.Rows StX
section
variable {X : Cx} {P : Program} {w : World} {K : PySem.W.Frag} {mg : Str → Option Value} {base : Heap} {j k : Nat} {C : Addr} {m qual n : Str} {ps : List Str} {S : FSpec} {st : Stmt}
structure CalR (P : Program) (w : World) (K : PySem.W.Frag) (mg : Str → Option Value) (base : Heap) (k : Nat) (R : Addr → Prop) (ps : List Str) (S : FSpec) : Prop where
  ex : ∃ f fd, FnG P w K mg base CX0 k f fd ps (liftC K S) ∧ R f ∧ Binds K fd ps []
theorem CalR.mono {R : Addr → Prop} (h : CalR P w K mg base j R ps S) (hk : j ≤ k) : CalR P w K mg base k R ps S := by
  obtain ⟨f, fd, h1, h2⟩ := h.ex
  exact ⟨f, fd, h1.mono hk, h2⟩
structure DmX (K : PySem.W.Frag) (R : Addr → Prop) (m qual : Str) (st : Stmt) (ps : List Str) (dd : List PD) : Prop where
  ex : ∃ f fd, FunX K m qual st f fd ∧ R f ∧ Binds K fd ps [] ∧ ∃ dvs ds, Vals dvs ds ∧ (∀ F : Hp, DfA K F dvs dd) ∧ Binds K fd ps ds
structure CalX (P : Program) (w : World) (K : PySem.W.Frag) (mg : Str → Option Value) (base : Heap) (k : Nat) (R : Addr → Prop) (ps : List Str) (S : FSpec) (dd : List PD) : Prop where
  ex : ∃ f fd, FnG P w K mg base CX0 k f fd ps (liftC K S) ∧ R f ∧ Binds K fd ps [] ∧ ∃ dvs ds, Vals dvs ds ∧ (∀ F : Hp, DfA K F dvs dd) ∧ Binds K fd ps ds
theorem CalX.toR {R : Addr → Prop} {dd : List PD} (h : CalX P w K mg base k R ps S dd) : CalR P w K mg base k R ps S := by
  obtain ⟨f, fd, h1, h2, h3, _⟩ := h.ex
  exact ⟨f, fd, h1, h2, h3⟩
theorem CalX.mono {R : Addr → Prop} {dd : List PD} (h : CalX P w K mg base j R ps S dd) (hk : j ≤ k) : CalX P w K mg base k R ps S dd := by
  obtain ⟨f, fd, h1, h2⟩ := h.ex
  exact ⟨f, fd, h1.mono hk, h2⟩
theorem def_calX {R : Addr → Prop} {N : List Str} {ir : TSt} {dd : List PD} (D : DmX K R m qual st ps dd) (Sc : FnScope N ps (defScope st)) (len : ∀ args Q, S.sp args Q → args.length = ps.length)
    (hb : ∀ [Pn] (f : Addr) (cdv : Value) (A : Around) (outer : List PySem.Env) (s : Shared) (H : Hp) (E : XK), Room k (A.deeper (envOfC qual (defScope st) s.heap.objs.size f cdv)) → (A.deeper (envOfC qual (defScope st) s.heap.objs.size f cdv)).guards = some [] → LSs (cxOf CX0 P w K mg base N qual (defScope st) f cdv A outer s H E).nox (defBody st) ir)
    (hsp : ∀ args Q, S.sp args Q → ir (endsOf args Q) (rho0 N args)) : CalX P w K mg base (k + 1) R ps S dd := by
  obtain ⟨f, fd, h1, h2⟩ := D.ex
  exact ⟨f, fd, def_okX h1 Sc len (hb f) hsp, h2⟩
theorem LF.mkC [Pn] {p pos : Pos} {e : Expr} {es : List Expr} {tt : TAd} (c : CalR X.prog X.w X.K X.mg X.base k (Mk X.K C) ps S) (hr : Room (k + 1) X.A) (hgd : X.A.guards = some []) (hg : Gl X n) (hm : X.mg n = some (.ref C)) (ha : LA X (e :: es) tt)
    (hdb : (n == ("__debug__" : Str)) = false := by decide) (he : starEach (e :: es) X.env = (false, eval e X.env) :: starEach es X.env := by rfl) (hpl : (backTo pos (starEach es X.env)).any (·.1) = false := by rfl) :
    LF X (.Call (.Name n p) (e :: es) [] pos) (fMake C S [] tt) := by
  obtain ⟨f, fd, h1, h2, h3⟩ := c.ex
  exact LF.make h2 h1 hr hgd hg hm h3 .nil (fun _ => .nil) ha hdb he hpl
def sNo : TSt := fun _ _ => False
theorem LS.no [Pn] {z : Stmt} : LS X z sNo := ⟨⟨fun pins s σ H D I h => by
  obtain ⟨_, _, _, _, _, h, _⟩ := h
  exact False.elim h⟩⟩
def dNo : TD := fun _ _ => False
theorem LD.no [Pn] {e : Expr} : LD X e dNo := ⟨⟨fun pins s σ H Q I h => by
  obtain ⟨_, _, _, _, _, h, _⟩ := h
  exact False.elim h⟩⟩
end
end DL
namespace DL
open PySem L2 PyProof.Rows
section
variable {X : Cx} {K : PySem.W.Frag} {F H : Hp} {e o e2 e3 e4 : Expr} {pos p p2 q : Pos} {oa ob oc od : Op1} {s : Nat} {tt : TAd} {σ : L2.St}
end
end DL
namespace DL
open PySem L2 PyProof.Rows PySem.Spec
section
variable {P : Program} {w : World} {A : Around} {E : Value → Shared → Prop}
end
section
variable {X : Cx} {K : PySem.W.Frag} {F H : Hp} {e : Expr} {p p2 pos pos2 : Pos} {tt : TAd}
end
end DL
namespace DL
open PySem L2 PyProof.Rows PySem.Spec
section
variable {X : Cx} {K : PySem.W.Frag}
end
end DL
namespace DL
open PySem L2 PyProof.Rows StX PySem.Spec
section
variable {X : Cx} {K : PySem.W.Frag} {σ : L2.St} {F H : Hp} {C f : Addr} {v : V} {y : PD} {pins : List (Addr × Obj)} {s : Shared} {u : Value}
theorem runIn {k : Nat} {fd : FuncData} {ps : List Str} {sp : Sp} {Q : VK} {us : List Value} {vs : List V} (Gd : FnG X.prog X.w X.K X.mg X.base CX0 k f fd ps sp) (hr : Room (k + 1) X.A) (hgd : X.A.guards = some []) (hb : Binds X.K fd ps [])
    (I : Inv X pins σ H s) (r : Vals vs us) (h : sp vs H Q E0) : wpAny (model X.prog X.w) X.A.in1 (call (.ref f) us) (EP X pins σ Q) X.xe s := by
  have e0 : Env0 X.prog X.w X.K X.mg X.base X.A.in1 X.stack s H := by
    have e := I.env0
    exact ⟨e.frames, e.mod, e.bs, e.bsz, e.funs, e.frf, e.hok, e.bare⟩
  have ll : us.length = ps.length := r.length.symm.trans (Gd.len _ _ _ _ h)
  refine wpAny_call (codeAny_mono (Gd.run X.A.in1 X.stack s H ⟨us, []⟩ us vs Q E0 hr.in1 hgd e0 (by have := hb s us I.kIn (by rw [List.append_nil]; exact ll); rw [List.append_nil] at this; exact this) r h) fun res s' hq => ?_)
  rcases res with e' | fl
  · exact pass0 pins σ H s e' s' I hq
  · cases fl <;> first | exact I.after hq | exact False.elim hq
end
section
variable {X : Cx} {C : Addr} {e e2 : Expr} {pos : Pos} {ta tb : TD} {S : FSpec} {k : Nat} {ps : List Str}
end
end DL
namespace DL
open PySem L2 PyProof.Rows StX PySem.Spec
section
variable {X : Cx} {K : PySem.W.Frag} {σ : L2.St} {F H : Hp} {C f : Addr} {v : V} {y : PD} {pins : List (Addr × Obj)} {s : Shared} {u : Value} {op : Operator}
end
section
variable {X : Cx} {C : Addr} {e e2 : Expr} {pos : Pos} {ta tb : TD} {S : FSpec} {k : Nat} {ps : List Str} {op : Operator} {σ : L2.St} {H : Hp} {Q : VK}
variable {p : Pos} {oa : Op1}
end
end DL
namespace DL
open PySem L2 PyProof.Rows
section
variable {X : Cx} {e : Expr} {oa : Op1} {s : Nat}
end
end DL
namespace DL
open PySem L2 PyProof.Rows StX PySem.Spec
structure RInt (op : Operator) : Prop where
  ex : ∃ nm : String, op.info.2 = nm ∧ fillsNumberSlot (.type "int") nm = pure true ∧ ∀ {prog : Program} {w : World} {A : Around} {E : Value → Shared → Prop} {s : Shared} {i : Int} {t : Tok} {x C dx : Addr} {Q : Option Value → Shared → Prop},
    s.heap.get? x = some (PySem.W.instObj C dx) → Q none s → wpAny (model prog w) A (tryMethod (.int i t) (PySem.dunder nm) (.ref x)) Q E s
theorem RInt.go {op : Operator} (r : RInt op) {prog : Program} {w : World} {A : Around} {E : Value → Shared → Prop} {s : Shared} {i : Int} {t : Tok} {x C dx : Addr} {Q : Option Value → Shared → Prop}
    (hx : s.heap.get? x = some (PySem.W.instObj C dx)) (q : Q none s) : wpAny (model prog w) A (tryMethod (.int i t) (PySem.dunder op.info.2) (.ref x)) Q E s := by
  obtain ⟨nm, e, _, g⟩ := r.ex
  rw [e]
  exact g hx q
section
open PySem.W
variable {prog : Program} {w : World} {A : Around} {E : Value → Shared → Prop} {s : Shared} {K : Frag} {x C L f g : Addr} {h₀ : Heap} {m : Str → Option Value} {od : Option Obj} {dx : Addr}
end
section
variable {X : Cx} {K : PySem.W.Frag} {σ : L2.St} {F H : Hp} {C f : Addr} {v : V} {y : PD} {pins : List (Addr × Obj)} {s : Shared} {u : Value} {op : Operator}
end
section
variable {X : Cx} {C : Addr} {e e2 : Expr} {pos : Pos} {ta tb : TD} {S : FSpec} {k : Nat} {ps : List Str} {op : Operator} {σ : L2.St} {H : Hp} {Q : VK}
end
end DL
namespace DL
open PySem L2 PyProof.Rows StX PySem.Spec
section
variable {X : Cx} {e e2 : Expr} {tt : TAd} {p pos tpos : Pos}
end
end DL
namespace DL
open PySem L2 PyProof.Rows StX PySem.Spec
section
variable {X : Cx} {e e2 : Expr} {pos : Pos} {oa ob : Op1} {σ : L2.St} {H : Hp} {Q : VK}
def fCat (oa ob : Op1) : TF := fun ρ Q => oa.run ρ fun x ρ1 => ob.run ρ1 fun y ρ2 => res1 ρ2 x fun x' => res1 ρ2 y fun y' => match x', y' with
  | .list xs, .list ys => xs.length + ys.length ≤ sizeLine ∧ Q (.ls none (xs ++ ys)) ρ2
  | _, _ => False
theorem cat_of [Pn] {K : PySem.W.Frag} (h : liftF K (fCat oa ob) σ H Q) : tOp (rAddD K) (liftO K oa) (liftO K ob) σ H Q := by
  obtain ⟨G, ρ, F, Q', R, q, c⟩ := h
  refine ⟨G, ρ, F, _, R, q, fun a ρ1 vx H1 F1 h1 R1 s1 ax => ⟨G, ρ1, F1, _, R1, h1, fun b ρ2 vy H2 F2 h2 R2 s2 ay => ?_⟩⟩
  obtain ⟨x', h3, dx⟩ := res1_dr R2 (ax.mono s2) h2
  obtain ⟨y', h4, dy⟩ := res1_dr R2 ay h3
  split at h4
  · obtain ⟨a, vs, rfl, q, d⟩ := dx.lst R2.fh
    obtain ⟨b, us, rfl, q2, d2⟩ := dy.lst R2.fh
    refine .inr (.inl ⟨a, b, vs, us, rfl, rfl, q, q2, by rw [d.length, d2.length]; exact h4.1, fun p hp => ?_⟩)
    obtain ⟨R3, k⟩ := fresh_ok (l := .ls none _) (o := .lst (vs ++ us)) R2 hp (d.append d2) rfl
    exact c _ _ _ _ _ h4.2 R3 (s1.trans s2) k
  · exact False.elim h4
theorem LF.cat [Pn] (ha : LO X e oa) (hb : LO X e2 ob) : LF X (.BinOp e .Add e2 pos) (fCat oa ob) := ⟨peImp (pe_op op_addD ha.p hb.p) fun _ _ _ h => cat_of h⟩
end
end DL
namespace DL
open PySem L2 PyProof.Rows
section
variable {X : Cx} {e : Expr} {oa : Op1} {s : Nat}
end
end DL
namespace DL
open PySem L2 PyProof.Rows
abbrev Xd := Addr × List (PD × PD)
def XcOk (K : PySem.W.Frag) (F : Hp) (x : Xd) (cls : Value) (d : Option Addr) : Prop :=
  cls = .ref x.1 ∧ ((d = none ∧ x.2 = []) ∨ ∃ dd us, d = some dd ∧ F dd = some (.xd us) ∧ DfF K F us x.2)
theorem XcOk.mono {K : PySem.W.Frag} {F F' : Hp} {x : Xd} {cls : Value} {d : Option Addr} (s : Same F F') (h : XcOk K F x cls d) : XcOk K F' x cls d := by
  obtain ⟨e, h⟩ := h
  refine ⟨e, ?_⟩
  rcases h with h | ⟨dd, us, e1, e2, e3⟩
  · exact .inl h
  · exact .inr ⟨dd, us, e1, s _ _ e2, e3.mono s⟩
def WD [Pn] (K : PySem.W.Frag) (u : Xd → En → Prop) : WX := fun cls d σ H => ∃ G ρ F x, Rel K G ρ F σ H ∧ XcOk K F x cls d ∧ u x ρ
structure XSpec where
  sp : List Lc → (Lc → List Lc → Prop) → (Xd → List Lc → Prop) → Prop
def liftX (K : PySem.W.Frag) (S : XSpec) : Sp := fun vs H Q E => ∃ args F ios n Qd Ed, Same F H ∧ ArgsOk K F H ios args vs ∧ IoOk H ios n args ∧
  S.sp args Qd Ed ∧ (∀ r outs v F' H', Qd r outs → Post K F H ios n (nioOf args) r outs v F' H' → Q v H') ∧
  ∀ x outs cls d F' H', Ed x outs → Post K F H ios n (nioOf args) (.d .none) outs .non F' H' → XcOk K F' x cls d → E cls d H'
def fCallX (S : XSpec) (u : Xd → En → Prop) (t : TAd) : TF := fun ρ Q => t ρ fun as ρ1 => match argsAt ρ1 as 0 with
  | some (args, is) => nodupB is = true ∧ S.sp args (fun r outs => putF ρ1 ρ1 is outs fun ρ2 => Q r ρ2) fun x outs => putF ρ1 ρ1 is outs fun ρ2 => u x ρ2
  | none => False
def tCallE (sp : Sp) (W : WX) (t : TA) : TE := fun σ H Q => t σ H fun vs H1 => sp vs H1 Q (WE W σ)
section
variable {G : Gm} {K : PySem.W.Frag} {F F' H H' : Hp} {ρ : En} {σ : L2.St} {v : V} {S : XSpec} {tt : TAd} {u : Xd → En → Prop}
theorem tCallX_of [Pn] {m : Nat} {Q : VK} (h : liftF K (fCallX S u tt) σ H Q) : tCallE (liftX K S) (WD K u) (liftA K m tt) σ H Q := by
  obtain ⟨G, ρ, F, Q', R, q, c⟩ := h
  refine ⟨G, ρ, F, _, R, q, fun as ρ1 vs H1 F1 h1 hl R1 s1 av => ?_⟩
  split at h1
  · rename_i args is ea
    obtain ⟨hn, h1⟩ := h1
    have hn := nodup_of hn
    obtain ⟨ios, p3, io, back⟩ := callIo R1 av ea hn
    refine ⟨args, F1, ios, is.length, _, _, R1.fh, p3, io, h1, fun r outs v F' H' q' P => ?_, fun x outs cls d F' H' q' P xc => ?_⟩
    · obtain ⟨R2, r2⟩ := back P
      have q2 := q'
      change putF _ _ _ _ _ at q2
      rw [putF_eq] at q2
      exact c _ _ _ _ _ q2 R2 (s1.trans P.ff) r2
    · obtain ⟨R2, _⟩ := back P
      have q2 := q'
      change putF _ _ _ _ _ at q2
      rw [putF_eq] at q2
      exact ⟨G, _, F', x, R2, xc, q2⟩
  · exact False.elim h1
end
section
variable {P : Program} {w : World} {K : PySem.W.Frag} {mg : Str → Option Value} {base : Heap} {j k : Nat} {f : Addr} {fd : FuncData} {ps : List Str} {sp : Sp} {X : Cx} {E : XK} {n : Str} {p pos : Pos} {e : Expr} {es : List Expr} {t : TA} {S : XSpec} {tt : TAd} {F H : Hp} {st : Stmt} {u : Xd → En → Prop} {W : WX}
theorem runGS {pins : List (Addr × Obj)} {σ : L2.St} {s : Shared} {Q : VK} {us : List Value} {vs : List V} (Gd : FnG X.prog X.w X.K X.mg X.base (L2.CX X.prog X.w) k f fd ps sp) (hr : Room k X.A) (hgd : X.A.guards = some []) (hb : Binds X.K fd ps [])
    (hx : PassesAt (L2.CX X.prog X.w) X σ E) (I : Inv X pins σ H s) (r : Vals vs us) (h : sp vs H Q E) : wpAny (model X.prog X.w) X.A (call (.ref f) us) (EP X pins σ Q) X.xe s := by
  have ll : us.length = ps.length := r.length.symm.trans (Gd.len _ _ _ _ h)
  have b := hb s us I.kIn (by rw [List.append_nil]; exact ll)
  rw [List.append_nil] at b
  have run := Gd.run X.A X.stack s H ⟨us, []⟩ us vs Q E hr hgd I.env0 b r h
  refine wpAny_call (codeAny_mono run fun res s' hq => ?_)
  rcases res with e' | fl
  · exact hx pins H s e' s' I hq
  · cases fl <;> first | exact I.after hq | exact False.elim hq
theorem peGE (Gd : FnG X.prog X.w X.K X.mg X.base (L2.CX X.prog X.w) k f fd ps sp) (hr : Room k X.A) (hgd : X.A.guards = some []) (hg : Gl X n) (hm : X.mg n = some (.ref f)) (hk : PySem.W.keepIn X.K (.ref f) = true) (hb : Binds X.K fd ps []) (tk : Takes X W)
    (ha : PA X (e :: es) t) (hdb : (n == ("__debug__" : Str)) = false := by decide) (he : starEach (e :: es) X.env = (false, eval e X.env) :: starEach es X.env := by rfl) (hpl : (backTo pos (starEach es X.env)).any (·.1) = false := by rfl) :
    PE X (.Call (.Name n p) (e :: es) [] pos) (tCallE sp W t) :=
  ⟨fun pins s σ H Q I h => wpAny_Call_Name_kw (ld_glob I hg hm (PySem.W.callWith_K (h₀ := X.base) I.ok.mod.kin hk (thn (ha.run pos pins s σ H _ I h) fun us s1 ⟨vs, H1, I1, r, q⟩ => ⟨I1.kIn, runGS Gd hr hgd hb (passAt tk σ) I1 r q⟩) he hpl) hdb)⟩
structure CalE (P : Program) (w : World) (K : PySem.W.Frag) (mg : Str → Option Value) (base : Heap) (k : Nat) (n : Str) (ps : List Str) (S : XSpec) : Prop where
  ex : ∃ f fd, FnG P w K mg base (L2.CX P w) k f fd ps (liftX K S) ∧ mg n = some (.ref f) ∧ PySem.W.keepIn K (.ref f) = true ∧ Binds K fd ps []
theorem CalE.mono (h : CalE P w K mg base j n ps S) (hk : j ≤ k) : CalE P w K mg base k n ps S := by
  obtain ⟨f, fd, h1, h2⟩ := h.ex
  exact ⟨f, fd, h1.mono hk, h2⟩
theorem LF.calE [Pn] (C : CalE X.prog X.w X.K X.mg X.base k n ps S) (hr : Room k X.A) (hgd : X.A.guards = some []) (tk : Takes X (WD X.K u)) (hg : Gl X n) (ha : LA X (e :: es) tt)
    (hdb : (n == ("__debug__" : Str)) = false := by decide) (he : starEach (e :: es) X.env = (false, eval e X.env) :: starEach es X.env := by rfl) (hpl : (backTo pos (starEach es X.env)).any (·.1) = false := by rfl) :
    LF X (.Call (.Name n p) (e :: es) [] pos) (fCallX S u tt) := by
  obtain ⟨f, fd, h1, h2, h3, h4⟩ := C.ex
  exact ⟨peImp (peGE h1 hr hgd hg h2 h3 h4 tk ha.p hdb he hpl) fun σ H Q h => tCallX_of h⟩
def endsX (args : List Lc) (E : Xd → List Lc → Prop) (x : Xd) (ρ : En) : Prop := match outsAt ρ (ioSlots args 0) 0 with
  | some outs => E x outs
  | none => False
theorem Rel.root {G0 : Gm} {ρ : En} {σ : L2.St} : ∀ {G : Gm}, Pins G0 G → @Rel (Pn.at_ G0) K G ρ F σ H → @Rel (Pn.at_ G0) K G0 ρ F σ H := by
  intro G hp
  induction hp with
  | refl => exact fun R => R
  | pin h h0 f0 hio no ih =>
    letI : Pn := Pn.at_ G0
    exact fun R => ih (Rel.unpin (show Pn.P _ from h) R h0 f0 hio no).1
theorem def_okE {x qual : Str} {N : List Str} {ir : (Xd → En → Prop) → TSt} (Fn : FunX K x qual st f fd) (Sc : FnScope N ps (defScope st)) (len : ∀ args Q E, S.sp args Q E → args.length = ps.length)
    (hb : ∀ [Pn] (cdv : Value) (A : Around) (outer : List PySem.Env) (s : Shared) (H : Hp) (E : XK) (u : Xd → En → Prop), Room k (A.deeper (envOfC qual (defScope st) s.heap.objs.size f cdv)) → (A.deeper (envOfC qual (defScope st) s.heap.objs.size f cdv)).guards = some [] →
      Takes (cxOf (L2.CX P w) P w K mg base N qual (defScope st) f cdv A outer s H E) (WD K u) → LSs (cxOf (L2.CX P w) P w K mg base N qual (defScope st) f cdv A outer s H E) (defBody st) (ir u))
    (hsp : ∀ args Q E, S.sp args Q E → ir (endsX args E) (endsOf args Q) (rho0 N args)) : FnG P w K mg base (L2.CX P w) (k + 1) f fd ps (liftX K S) := by
  obtain ⟨oc, od, dV, kV, doc, pm, an, cdv, ct, osl, rfl, lk, hcd⟩ := Fn.ex
  refine fnG lk hcd Sc (fun vs H Q E h => ?_) fun A outer s H vs Q E hr hgd h => ?_
  · obtain ⟨args, F, ios, n, Qd, Ed, _, a, _, h, _⟩ := h
    rw [← a.length]; exact len args Qd Ed h
  · obtain ⟨args, F, ios, n, Qd, Ed, s0, a, io, h, c, cx⟩ := h
    letI : Pn := Pn.at_ ⟨H, F, ios, nioOf args⟩
    have R := Rel.start (N := N) Pins.refl s0 a io
    have ht := io.tg
    have tk : Takes (cxOf (L2.CX P w) P w K mg base N qual (defScope st) f cdv A outer s H E) (WD K (endsX args Ed)) := Takes.imp (takes_of rfl rfl rfl rfl) fun cls d σ H' ⟨G, ρ, F', x, R', xc, hx⟩ => by
      have R0 := Rel.root R'.ok R'
      unfold endsX at hx
      split at hx
      · rename_i outs eo
        exact cx _ _ _ _ _ _ hx (end_post (l := .d .none) (v := .non) ht eo R0 .non) xc
      · exact False.elim hx
    refine ⟨_, (hb cdv A outer s H E (endsX args Ed) hr hgd tk).p, ?_⟩
    exact ⟨⟨H, F, ios, nioOf args⟩, rho0 N args, F, endsOf args Qd, R, hsp args Qd Ed h, ⟨fun ρ σ H' F' hq R' s' => end_fin (l := .d .none) (v := .non) ht c hq R' (show Df K F' .non .none from .non), fun l ρ v σ H' F' hq R' s' r => end_fin ht c hq R' r, fun _ _ _ _ z => False.elim z, fun _ _ _ _ z => False.elim z⟩⟩
theorem def_calE {N : List Str} {ir : (Xd → En → Prop) → TSt} (D : Dn K mg n st ps) (Sc : FnScope N ps (defScope st)) (len : ∀ args Q E, S.sp args Q E → args.length = ps.length)
    (hb : ∀ [Pn] (f : Addr) (cdv : Value) (A : Around) (outer : List PySem.Env) (s : Shared) (H : Hp) (E : XK) (u : Xd → En → Prop), Room k (A.deeper (envOfC n (defScope st) s.heap.objs.size f cdv)) → (A.deeper (envOfC n (defScope st) s.heap.objs.size f cdv)).guards = some [] →
      Takes (cxOf (L2.CX P w) P w K mg base N n (defScope st) f cdv A outer s H E) (WD K u) → LSs (cxOf (L2.CX P w) P w K mg base N n (defScope st) f cdv A outer s H E) (defBody st) (ir u))
    (hsp : ∀ args Q E, S.sp args Q E → ir (endsX args E) (endsOf args Q) (rho0 N args)) : CalE P w K mg base (k + 1) n ps S := by
  obtain ⟨f, fd, h1, h2, h3⟩ := D.ex
  exact ⟨f, fd, def_okE (funX_of h1) Sc len (hb f) hsp, h2, h1.kp, h3⟩
theorem CalE.vac (D : Dn K mg n st ps) (no : ∀ args Q E, ¬ S.sp args Q E) : CalE P w K mg base k n ps S := by
  obtain ⟨f, fd, h1, h2, h3⟩ := D.ex
  have no' : ∀ vs H Q E, ¬ liftX K S vs H Q E := fun vs H Q E h => by
    obtain ⟨args, F, ios, n, Qd, Ed, _, _, _, h, _⟩ := h
    exact no _ _ _ h
  exact ⟨f, fd, ⟨fun vs H Q E h => absurd h (no' vs H Q E), fun A outer s H args us vs Q E _ _ _ _ _ h => absurd h (no' vs H Q E)⟩, h2, h1.kp, h3⟩
end
end DL
namespace DL
open PySem L2 PyProof.Rows
structure HeC (K : PySem.W.Frag) (HC : Addr) : Prop where
  sg : PySem.W.specialIn K (.ref HC) "__getattribute__" = some (some (.builtin "type.__getattribute__"))
  rd : PySem.W.readsIn K HC (.type "type") = true
  vi : PySem.W.findCls K (.ref HC) (.type "type") "__init__" = some (.val (.builtin "ValueError.__init__"))
section
variable {X : Cx} {K : PySem.W.Frag} {e : Expr} {es : List Expr} {ta : TA} {x f : Str} {HC C : Addr} {p p1 p2 pos pos2 : Pos}
theorem pe_hinit {pl : Sem Bool} (hg : Gl X x) (hm : X.mg x = some (.ref HC)) (hc : HeC X.K HC) (ha : PA X (e :: es) ta)
    (ev : eval (.Call (.Attribute (.Name x p1) "__init__" p2) (e :: es) [] pos) X.env = (do
      let ov ← eval (.Name x p1) X.env
      standAt p2.atName
      let (f, first) ← holding [ov] (getMethod ov "__init__" pl)
      callWith pos f first (backTo pos (starEach (e :: es) X.env)) (backToKw pos (keywordEach [] X.env))) := by rfl)
    (hdb : (x == ("__debug__" : Str)) = false := by decide)
    (he : starEach (e :: es) X.env = (false, eval e X.env) :: starEach es X.env := by rfl) (hpl : (backTo pos (starEach es X.env)).any (·.1) = false := by rfl) :
    PE X (.Call (.Attribute (.Name x p1) "__init__" p2) (e :: es) [] pos) (tVeI X.K ta) := by
  refine ⟨fun pins s σ H Q I h => ?_⟩
  refine PySem.W.methodCall_KW (pl := pl) (ld_glob I hg hm ?_ hdb) ev
  refine PySem.W.method_cls I.kIn hc.sg (PySem.W.cls_value I.kIn hc.rd hc.vi (by decide +kernel) ?_)
  show wpAny _ _ (callWith pos (Value.builtin "ValueError.__init__") [] (backTo pos (starEach (e :: es) X.env)) []) _ _ _
  refine callWith_method1 (thn (ha.run pos pins _ σ H _ (I.tok _) h) fun us s1 hh => ?_) he hpl
  obtain ⟨vs, H1, I1, r1, a, C, ws, rfl, hl, T, ea, q⟩ := hh
  cases r1 with
  | @cons _ u0 _ ur ra rr =>
    obtain rfl : u0 = Value.ref a := ra
    refine oinit_ok T I1 ea ?_ fun s' J => ⟨.non, H1, J, rfl, q⟩
    rw [← Paired.length rr, sizeLine_eq]; omega
def spExI (K : PySem.W.Frag) (C : Addr) (names : List Str) : Sp := fun vs H Q _ => ∃ a ys, vs = .ref a :: ys ∧ ys.length = names.length ∧ OexC K C ∧ H a = some (exo a C none) ∧
  ∀ d H3, H d = none → d ≠ a → H3 a = some (exo a C (some d)) → H3 d = some (exd d (names.zip ys).reverse) → (∀ b, b ≠ a → b ≠ d → H3 b = H b) → Q .non H3
structure ExMk (P : Program) (w : World) (K : PySem.W.Frag) (mg : Str → Option Value) (base : Heap) (k : Nat) (n : Str) (C : Addr) (names : List Str) : Prop where
  ex : ∃ fI fd, OexC K C ∧ PySem.W.findIn K (.ref C) "__init__" = some (some (.ref fI)) ∧ PySem.W.typeIn K (.ref fI) = some (.type "function") ∧ FnOk P w K mg base CX0 k fI fd ("self" :: names) (spExI K C names) ∧ Binds K fd ("self" :: names) [] ∧ mg n = some (.ref C)
theorem ExMk.mono {P : Program} {w : World} {mg : Str → Option Value} {base : Heap} {j k : Nat} {n : Str} {names : List Str} (h : ExMk P w K mg base j n C names) (hk : j ≤ k) : ExMk P w K mg base k n C names := by
  obtain ⟨fI, fd, h1, h2, h3, h4, h5⟩ := h.ex
  exact ⟨fI, fd, h1, h2, h3, h4.mono hk, h5⟩
theorem DfF.append {F : Hp} : ∀ {us us2 : List (Str × V)} {es es2 : List (PD × PD)}, DfF K F us es → DfF K F us2 es2 → DfF K F (us ++ us2) (es ++ es2)
  | _, _, _, _, .nil, h => h
  | _, _, _, _, .cons a b, h => .cons a (DfF.append b h)
def xdF (names : List Str) (xs : List PD) : List (PD × PD) := ((names.zip xs).map fun p => (PyData.str p.1, p.2)).reverse
theorem xdF_df {F : Hp} : ∀ {names : List Str} {vs : List V} {xs : List PD}, DfA K F vs xs → DfF K F (names.zip vs).reverse (xdF names xs)
  | [], vs, xs, _ => by unfold xdF; simp; exact .nil
  | n :: names, [], xs, h => by cases h; unfold xdF; simp; exact .nil
  | n :: names, v :: vs, xs, h => by
    cases h with
    | @cons _ _ x xs a b =>
      have ih := xdF_df (names := names) b
      have : xdF (n :: names) (x :: xs) = xdF names xs ++ [(.str n, x)] := by unfold xdF; simp
      rw [this, List.zip_cons_cons, List.reverse_cons]
      exact DfF.append ih (.cons a .nil)
def sRaise (C : Addr) (names : List Str) (u : Xd → En → Prop) (tt : TAd) : TSt := fun _ ρ => tt ρ fun as ρ1 => resFA ρ1 as fun xs => xs.length = names.length ∧ u (C, xdF names xs) ρ1
theorem LS.raise [Pn] {k : Nat} {n : Str} {names : List Str} {u : Xd → En → Prop} {tt : TAd} (hc : X.calm = true) (tk : Takes X (WD X.K u)) (M : ExMk X.prog X.w X.K X.mg X.base k n C names) (hr : Room (k + 1) X.A) (hg : Gl X n) (ha : LA X (e :: es) tt)
    (hn : names.length ≤ 1000 := by decide) (hdb : (n == ("__debug__" : Str)) = false := by decide) (he : starEach (e :: es) X.env = (false, eval e X.env) :: starEach es X.env := by rfl) (hpl : (backTo pos (starEach es X.env)).any (·.1) = false := by rfl) :
    LS X (.Raise (some (.Call (.Name n p) (e :: es) [] pos)) none pos2) (sRaise C names u tt) := by
  obtain ⟨fI, fd, h1, h2, h3, h4, h5, h6⟩ := M.ex
  refine ⟨psImp (ps_raise hc tk (pmk_oex h1 h2 h3 h4 hr h5 .nil pass0 hg h6 ha.p hdb he hpl)) fun D σ H ⟨G, ρ, F, D', R, q, k⟩ => ⟨G, ρ, F, _, R, q, fun as ρ1 vs H1 F1 q1 hl R1 s1 av => ?_⟩⟩
  obtain ⟨xs, ⟨hx, q2⟩, d⟩ := resFA_df R1 av q1
  have hv : vs.length = names.length := by rw [d.length, hx]
  refine ⟨by omega, fun a ha' => ⟨a, vs, by rw [List.append_nil], hv, h1, upd_same, fun dd H3 hd hne h3a h3d hoth => ?_⟩⟩
  have hd1 : H1 dd = none := by rw [upd_ne hne] at hd; exact hd
  refine ⟨rfl, dd, _, h3a, h3d, hd1, ?_⟩
  have eh : upd (del H3 a) dd (.xd (names.zip vs).reverse) = upd H1 dd (.xd (names.zip vs).reverse) := by
    funext b
    by_cases hb : b = dd
    · subst hb; rw [upd_same, upd_same]
    · rw [upd_ne hb, upd_ne hb]
      by_cases hba : b = a
      · subst hba; rw [del_same, ha']
      · rw [del_ne hba, hoth b hba hb, upd_ne hba]
  rw [eh]
  have g := Grow.frozen R1.fh hd1 (.xd (names.zip vs).reverse)
  exact ⟨G, ρ1, _, _, R1.grow g, ⟨rfl, .inr ⟨dd, _, rfl, upd_same, (xdF_df d).mono g.ff⟩⟩, q2⟩
end
section
variable {P : Program} {w : World} {K : PySem.W.Frag} {mg : Str → Option Value} {base : Heap} {k : Nat} {fI : Addr} {fd : FuncData} {qual f1 f2 m n : Str} {st : Stmt} {C : Addr}
def tInit (K : PySem.W.Frag) (m : Str) : TS := tDrop (tVeI K (tCons (tVar 0) (tCons (tC (.str m)) tNil)))
theorem ex_ok1 (Fn : Fun K "__init__" qual st fI fd) (Sc : FnScope ["self", f1] ["self", f1] (defScope st)) (T : OexC K C) (no1 : PySem.W.findIn K (.ref C) f1 = some none) (iC : PySem.W.findIn K (.ref C) "__init__" = some (some (.ref fI))) (tI : PySem.W.typeIn K (.ref fI) = some (.type "function")) (gm : mg n = some (.ref C))
    (hb : ∀ (cdv : Value) (A : Around) (outer : List PySem.Env) (s : Shared) (H : Hp) (E : XK), Room k (A.deeper (envOfC qual (defScope st) s.heap.objs.size fI cdv)) →
      PSs (cxOf CX0 P w K mg base ["self", f1] qual (defScope st) fI cdv A outer s H E).nox (defBody st) (tSeq (tInit K m) (tOst K f1 (tVar 0) (tVar 1))))
    (bi : Binds K fd ["self", f1] []) : ExMk P w K mg base (k + 1) n C [f1] := by
  refine ⟨fI, fd, T, iC, tI, Fn.ok Sc (fun vs H Q E h => ?_) (fun cdv A outer s H vs Q E hr h => ⟨_, hb cdv A outer s H E hr, ?_⟩), bi, gm⟩
  · obtain ⟨a, ys, rfl, hl, _⟩ := h
    simp at hl; simp [hl]
  · obtain ⟨a, ys, rfl, hl, _, ea, q⟩ := h
    match ys, hl with
    | [y], _ =>
      refine ⟨_, rfl, a, C, _, rfl, by simp, T, ea, _, rfl, _, rfl, a, C, rfl, T, no1, .inl ⟨ea, fun dx hd hne => ?_⟩⟩
      exact q dx _ hd hne (by rw [upd_same]) (by rw [upd_ne hne, upd_same]; rfl) fun b h1 h2 => by rw [upd_ne h1, upd_ne h2]
end
end DL
namespace L2
open PySem PySem.Spec PyProof.Rows
abbrev Cls3 := Value × Option Nat × (Addr → Value → Option Addr → TS)
def Ends.gone (D : Ends) (i : Nat) : Ends := { nx := fun σ H => D.nx (σ.set i none) H, rt := D.rt, bk := fun σ H => D.bk (σ.set i none) H, ct := fun σ H => D.ct (σ.set i none) H }
def wMix (K : PySem.W.Frag) (Wout : WX) (D : Ends) : List Cls3 → WX
  | [] => Wout
  | q :: r => fun cls d σ H => ∃ b, PySem.W.exmOne K cls q.1 = some b ∧ (b = false → wMix K Wout D r cls d σ H) ∧
    (b = true → ∀ a, H a = none → match q.2.1 with
      | none => q.2.2 a cls d D σ H
      | some i => q.2.2 a cls d (D.gone i) (σ.set i (some (.ref a))) H)
inductive HdMix (X : Cx) : List ExceptHandler → List Cls3 → Prop
  | nil : HdMix X [] []
  | bare {x : Str} {c : Value} {ts : Addr → Value → Option Addr → TS} {b₀ : Stmt} {su : List Stmt} {np p' : Pos} {hs : List ExceptHandler} {l : List Cls3} (hc : Names X x c)
      (hsu : ∀ (a : Addr) (oe : Obj) (cls : Value) (d : Option Addr) (pn : List (Addr × Obj)), Zc cls d oe → (∃ vs, oe.data = .fields vs) → PSs (X.suite a ((a, oe) :: pn)) (b₀ :: su) (ts a cls d)) (r : HdMix X hs l) :
      HdMix X (.ExceptHandler (some (.Name x np)) none (b₀ :: su) p' :: hs) ((c, none, ts) :: l)
  | named {x n : Str} {i : Nat} {c : Value} {ts : Addr → Value → Option Addr → TS} {b₀ : Stmt} {su : List Stmt} {np p' : Pos} {hs : List ExceptHandler} {l : List Cls3} (hc : Names X x c) (hi : X.N[i]? = some n) (hln : X.env.kindOf n = some .local)
      (hsu : ∀ (a : Addr) (oe : Obj) (cls : Value) (d : Option Addr) (pn : List (Addr × Obj)), Zc cls d oe → (∃ vs, oe.data = .fields vs) → PSs (X.suite a ((a, oe) :: pn)) (b₀ :: su) (ts a cls d)) (r : HdMix X hs l) :
      HdMix X (.ExceptHandler (some (.Name x np)) (some n) (b₀ :: su) p' :: hs) ((c, some i, ts) :: l)
section
variable {X : Cx} {pins : List (Addr × Obj)} {σ : St} {H : Hp} {s : Shared}
theorem mix_go {Wout : WX} {D : Ends} {B : Heap} {sI : Shared} {a : Addr} {cls : Value} {d : Option Addr} (ok : X.Ok) (hs : X.stack = X.env :: X.outer) (hf : X.env.frame = some X.env.locals) (hN : X.N.Nodup) (tk : Takes X Wout) (J : Inv X pins σ H sI)
    (nb : ∀ b o, sI.heap.get? b = some o → b ∉ frs X.stack → B.get? b = some o) (up : sI.heap.UpToSlots s.heap) (os : s.os = sI.os) (ag : AllBare s.gens) (na : H a = none) (nL : a ≠ X.env.locals) (nF : a ∉ X.fs) (fl : HandSPX.FlyingZ B (X.env :: X.outer) a (Zc cls d) s.heap) :
    ∀ {hs' : List ExceptHandler} {l : List Cls3}, HdMix X hs' l → wMix X.K Wout D l cls d σ H → wpAny (model X.prog X.w) X.A (handleBy (.ref a) X.env hs') (SP X pins D) X.xe s := by
  have J3 : Inv X pins σ H s := J.landed nb fl.1 up os ag
  obtain ⟨oe, vs, he, hz, hd⟩ := fl.there
  have S3 := J3.suite he hd na nL nF
  have LT : PySem.W.Looks (model X.prog X.w) s.heap (typeOf (.ref a)) cls := fun A Q E s k q => wpAny_typeOf_ref (k _ _ he) (by rw [hz.1]; exact q)
  have test : ∀ {x : Str} {c : Value} {np : Pos}, Names X x c → ∀ {Q E : Value → Shared → Prop}, Q c s → wpAny (model X.prog X.w) (X.A.mark (some (.ref a))) (eval (.Name x np) X.env) Q E s := by
    intro x c np hc Q E q
    obtain ⟨hg, hdbg, hm | ⟨hm, hv, hnn⟩⟩ := hc
    · exact ld_glob (X := X.suite a ((a, oe) :: (X.pn ++ pins))) S3 hg hm q hdbg
    · exact ld_blt (X := X.suite a ((a, oe) :: (X.pn ++ pins))) S3 hg hm hv q hnn hdbg
  intro hs' l hk
  induction hk with
  | nil =>
    intro w
    obtain ⟨_, _, _, oe2, vs2, T, _, _, he2, _, hd2, h1, _⟩ := id fl
    refine wpAny_handleBy_nil ?_
    unfold PySem.passOn
    refine wpAny_bind (wpAny_field he2 hd2 h1 ?_)
    have nn : ¬ ((Value.ref T == Value.none) = true) := by simp
    have out : wpAny (model X.prog X.w) X.A (setFlight (.ref a) X.env.frame) (fun _ s4 => wpAny (model X.prog X.w) X.A (throw (.ref a) : Sem Flow) (SP X pins D) X.xe s4) X.xe s := by
      rw [hf]
      refine HandSPX.setFlight_upZ fl fun h4 hh4 up4 => wpAny_throw (tk _ _ ⟨a, B, sI, pins, σ, H, cls, d, rfl, J, nb, up.trans up4, .inr (.inr ?_), na, os, ag, w⟩)
      rw [hs]; exact hh4
    rw [if_neg nn]
    first | exact wpAny_bind (wpAny_pure (wpAny_bind out)) | exact wpAny_bind out
  | @bare x c ts b₀ su np p' hs2 l2 hc hsu r ih =>
    intro w
    obtain ⟨b, hb1, hno, hyes⟩ := w
    refine wpAny_handleBy_cons (codeAny_handlers_test (test hc ((PySem.W.exm_one (M := model X.prog X.w) J3.kIn LT hb1).here ?_))) (by intro q; cases q)
    cases b with
    | false => exact ih (hno rfl)
    | true =>
      refine codeAny_handlers_suite (HandSPX.lands_againZ fl fun h4 fl4 up4 => ?_)
      have J4 : Inv X pins σ H { s with heap := h4 } := J.landed nb fl4.1 (up.trans up4) os ag
      obtain ⟨oe4, vs4, he4, hz4, hd4⟩ := fl4.there
      refine wpAny_mono ((hsu a oe4 cls d (X.pn ++ pins) hz4 ⟨_, hd4⟩).run [] _ _ H _ (J4.suite he4 hd4 na nL nF) (hyes rfl a na)) (fun f s6 hsp => ?_) (fun _ _ z => z.elim)
      cases f with
      | ret u => obtain ⟨v6, σ6, H6, S6, r6, q6⟩ := hsp; exact ⟨_, _, _, S6.unsuite ok, r6, q6⟩
      | _ => obtain ⟨σ6, H6, S6, q6⟩ := hsp; exact ⟨_, _, S6.unsuite ok, q6⟩
  | @named x n i c ts b₀ su np p' hs2 l2 hc hi hln hsu r ih =>
    intro w
    obtain ⟨b, hb1, hno, hyes⟩ := w
    refine wpAny_handleBy_cons (codeAny_handlers_test (test hc ((PySem.W.exm_one (M := model X.prog X.w) J3.kIn LT hb1).here ?_))) (by intro q; cases q)
    cases b with
    | false => exact ih (hno rfl)
    | true =>
      refine codeAny_handlers_suite_as (HandSPX.lands_againZ fl fun h4 fl4 up4 => ?_)
      have J4 : Inv X pins σ H { s with heap := h4 } := J.landed nb fl4.1 (up.trans up4) os ag
      obtain ⟨oe4, vs4, he4, hz4, hd4⟩ := fl4.there
      refine store_ok (X := X.suite a ((a, oe4) :: (X.pn ++ pins))) (v := .ref a) (J4.suite he4 hd4 na nL nF) hN hi (.inl hln) rfl (fun s5 S5 => ?_) (.inr hln)
      refine wpAny_mono ((hsu a oe4 cls d (X.pn ++ pins) hz4 ⟨_, hd4⟩).run [] s5 _ H _ S5 (hyes rfl a na)) (fun f s6 hsp => ?_) (fun _ _ z => z.elim)
      cases f with
      | ret u => obtain ⟨v6, σ6, H6, S6, r6, q6⟩ := hsp; exact gone_ok (S6.unsuite ok) hN hi hln fun s7 J7 => ⟨_, _, _, J7, r6, q6⟩
      | _ => obtain ⟨σ6, H6, S6, q6⟩ := hsp; exact gone_ok (S6.unsuite ok) hN hi hln fun s7 J7 => ⟨_, _, J7, q6⟩
theorem ps_try_mix {body : List Stmt} {h₀ : ExceptHandler} {hds : List ExceptHandler} {l : List Cls3} {pos : Pos} {tb : WX → TS} {Wout : WX} (hs : X.stack = X.env :: X.outer) (hf : X.env.frame = some X.env.locals) (hN : X.N.Nodup) (tk : Takes X Wout)
    (hb : ∀ (W : WX) (pn : List (Addr × Obj)) (xe : Value → Shared → Prop), Takes (X.tr pn xe) W → PassesOwn (model X.prog X.w) X.A X.env xe → PSs (X.tr pn xe) body (tb W))
    (hh : HdMix X (h₀ :: hds) l) : PS X (.Try body (h₀ :: hds) [] [] pos) (fun D σ H => tb (wMix X.K Wout D l) D σ H) := by
  refine ⟨fun pins s σ H D I h => wpAny_Try_except ?_⟩
  have ok := I.ok
  have hfr : X.A.frames = some (X.env :: X.outer) := by rw [ok.frames, hs]
  refine wpAny_mono ((hb (wMix X.K Wout D l) (X.pn ++ pins) (fun e s₁ => wpAny (model X.prog X.w) X.A (noteFrame e X.env) (fun _ s₂ => wpAny (model X.prog X.w) X.A (setFlight e none) (fun _ s₃ =>
    wpAny (model X.prog X.w) X.A (handleBy e X.env (h₀ :: hds)) (SP X pins D) X.xe s₃) X.xe s₂) X.xe s₁) (fun u s' xx => ?_) PassesOwn.looking).run [] s σ H D (I.toTry _) h) (fun f s1 hsp => ?_) (fun e s1 he => he)
  · obtain ⟨a, B, sI, pins', σ', H', cls, d, rfl, J', nb, up, sky, na, os, ag, w⟩ := xx
    have J : Inv X pins σ' H' sI := J'.ofTry ok
    have sky' : Sky B (X.env :: X.outer) a (Zc cls d) X.env.locals s'.heap := by rw [← hs]; exact sky
    refine Sky.land Zc.steady hfr hf sky' fun h3 fl3 up3 => ?_
    obtain ⟨oe3, vs3, he3, hz3, hd3⟩ := fl3.there
    have nfr : a ∉ frs (X.env :: X.outer) := fun hm => by
      obtain ⟨_, o', e', hnf⟩ := Heap.FunFrames.mem fl3.2.2.1 hm
      rw [he3] at e'; cases e'
      exact hnf _ hd3
    refine mix_go (s := { s' with heap := h3 }) ok hs hf hN tk J nb (up.trans up3) os ag na (fun z => nfr (List.mem_filterMap.mpr ⟨X.env, List.mem_cons_self, by rw [hf, z]⟩)) (fun hm => ?_) fl3 hh w
    obtain ⟨e, he, q⟩ := List.mem_filterMap.mp hm
    exact nfr (List.mem_filterMap.mpr ⟨e, List.mem_cons_of_mem _ he, q⟩)
  · cases f with
    | ret u => obtain ⟨v, σ', H', J', r, q⟩ := hsp; exact ⟨v, σ', H', J'.ofTry ok, r, q⟩
    | next => obtain ⟨σ', H', J', q⟩ := hsp; exact wpAny_execs_nil ⟨σ', H', J'.ofTry ok, q⟩
    | brk => obtain ⟨σ', H', J', q⟩ := hsp; exact ⟨σ', H', J'.ofTry ok, q⟩
    | cont => obtain ⟨σ', H', J', q⟩ := hsp; exact ⟨σ', H', J'.ofTry ok, q⟩
end
end L2
namespace DL
open PySem L2 PyProof.Rows
def excV (a : Addr) : Option Addr → Xd → PD
  | none, x => .dict [(.bool true, .int (x.1 : Int)), (.bool true, .int (a : Int)), (.bool true, .none)]
  | some dd, x => .dict ((.bool true, .int (x.1 : Int)) :: (.bool true, .int (a : Int)) :: (.bool true, .int (dd : Int)) :: x.2)
theorem XcOk.df {K : PySem.W.Frag} {F : Hp} {x : Xd} {cls : Value} {d : Option Addr} (h : XcOk K F x cls d) (a : Addr) : Df K F (.ref a) (excV a d x) ∧ (d = none → x.2 = []) := by
  obtain ⟨_, ⟨rfl, h⟩ | ⟨dd, us, rfl, h1, h2⟩⟩ := h
  · exact ⟨.ex0, fun _ => h⟩
  · exact ⟨.ex1 h1 h2, fun z => by cases z⟩
theorem dict_keys {K : PySem.W.Frag} {F : Hp} : ∀ {kvs : List (Key × V)} {es : List (PD × PD)}, DfK K F kvs es → ∀ {b : Bool} {y : PD} {r : List (PD × PD)}, es ≠ (.bool b, y) :: r
  | _, _, .nil, b, y, r => by simp
  | (k, v) :: vs, _, .cons _ _, b, y, r => by cases k <;> simp [keyD]
theorem exc_inv {K : PySem.W.Frag} {F : Hp} {v : V} {a : Addr} {d : Option Addr} {x : Xd} (h : Df K F v (excV a d x)) : v = .ref a ∧ (d = none ∨ ∃ dd us, d = some dd ∧ F dd = some (.xd us) ∧ DfF K F us x.2) := by
  cases d with
  | none =>
    unfold excV at h
    cases h with
    | dk _ h2 => exact absurd rfl (dict_keys h2)
    | ex0 => exact ⟨rfl, .inl rfl⟩
  | some dd =>
    unfold excV at h
    cases h with
    | dk _ h2 => exact absurd rfl (dict_keys h2)
    | ex1 h1 h2 => exact ⟨rfl, .inr ⟨_, _, rfl, h1, h2⟩⟩
def DE.gone (D : DE) (i : Nat) : DE := { nx := fun ρ => D.nx (ρ.set i none), rt := D.rt, bk := fun ρ => D.bk (ρ.set i none), ct := fun ρ => D.ct (ρ.set i none) }
structure Hd3 where
  subs : List (Addr × Bool)
  slot : Option Nat
  ts : Addr → Addr → Option Addr → TSt
def uMix (D : DE) : List Hd3 → Xd → En → Prop
  | [], _, _ => False
  | q :: r, x, ρ => ∃ b, (x.1, b) ∈ q.subs ∧ (b = false → uMix D r x ρ) ∧ (b = true → ∀ a d, (d = none → x.2 = []) → match q.slot with
      | none => q.ts a x.1 d D ρ
      | some i => q.ts a x.1 d (D.gone i) (ρ.set i (some (.d (excV a d x)))))
def sTry (tb : (Xd → En → Prop) → TSt) (l : List Hd3) : TSt := fun D ρ => tb (uMix D l) D ρ
inductive LHd (X : Cx) : List ExceptHandler → List Hd3 → List Value → Prop
  | nil : LHd X [] [] []
  | bare {x : Str} {c : Value} {subs : List (Addr × Bool)} {ts : Addr → Addr → Option Addr → TSt} {b₀ : Stmt} {su : List Stmt} {np p' : Pos} {hs : List ExceptHandler} {l : List Hd3} {cs : List Value} (hc : Names X x c) (hsub : ∀ p ∈ subs, PySem.W.exmOne X.K (.ref p.1) c = some p.2)
      (hsu : ∀ [Pn] (a : Addr) (oe : Obj) (C : Addr) (d : Option Addr) (pn : List (Addr × Obj)), Zc (.ref C) d oe → (∃ vs, oe.data = .fields vs) → LSs (X.suite a ((a, oe) :: pn)) (b₀ :: su) (ts a C d)) (r : LHd X hs l cs) :
      LHd X (.ExceptHandler (some (.Name x np)) none (b₀ :: su) p' :: hs) (⟨subs, none, ts⟩ :: l) (c :: cs)
  | named {x n : Str} {i : Nat} {c : Value} {subs : List (Addr × Bool)} {ts : Addr → Addr → Option Addr → TSt} {b₀ : Stmt} {su : List Stmt} {np p' : Pos} {hs : List ExceptHandler} {l : List Hd3} {cs : List Value} (hc : Names X x c) (hsub : ∀ p ∈ subs, PySem.W.exmOne X.K (.ref p.1) c = some p.2)
      (hi : X.N[i]? = some n) (hln : X.env.kindOf n = some .local)
      (hsu : ∀ [Pn] (a : Addr) (oe : Obj) (C : Addr) (d : Option Addr) (pn : List (Addr × Obj)), Zc (.ref C) d oe → (∃ vs, oe.data = .fields vs) → LSs (X.suite a ((a, oe) :: pn)) (b₀ :: su) (ts a C d)) (r : LHd X hs l cs) :
      LHd X (.ExceptHandler (some (.Name x np)) (some n) (b₀ :: su) p' :: hs) (⟨subs, some i, ts⟩ :: l) (c :: cs)
def tSu (K : PySem.W.Frag) (ts : Addr → Addr → Option Addr → TSt) : Addr → Value → Option Addr → TS := fun a cls d D σ H => ∃ (P : Pn) (C : Addr), cls = .ref C ∧ @liftS P K (ts a C d) D σ H
def cl3 (K : PySem.W.Frag) : List Hd3 → List Value → List Cls3
  | q :: r, c :: cs => (c, q.slot, tSu K q.ts) :: cl3 K r cs
  | _, _ => []
theorem LHd.mix {X : Cx} {hs : List ExceptHandler} {l : List Hd3} {cs : List Value} (h : LHd X hs l cs) : HdMix X hs (cl3 X.K l cs) := by
  induction h with
  | nil => exact .nil
  | bare hc hsub hsu r ih =>
    refine .bare hc (fun a oe cls d pn hz hf => ⟨fun pins s σ H D I h => ?_⟩) ih
    obtain ⟨P, C, rfl, h⟩ := h
    exact (@hsu P a oe C d pn hz hf).p.run pins s σ H D I h
  | named hc hsub hi hln hsu r ih =>
    refine .named hc hi hln (fun a oe cls d pn hz hf => ⟨fun pins s σ H D I h => ?_⟩) ih
    obtain ⟨P, C, rfl, h⟩ := h
    exact (@hsu P a oe C d pn hz hf).p.run pins s σ H D I h
section
variable {K : PySem.W.Frag} {G : Gm} {ρ : En} {σ : L2.St} {F F' H H' : Hp}
def Gm.now (G : Gm) (F : Hp) : Gm := { G with F0 := F }
theorem slot_now {l : Lc} {F0 : Hp} {s : Option (Option V)} : SlotOk K (G.now F0) F H l s ↔ SlotOk K G F H l s := by
  have ow : ∀ {t : Option Nat} {a : Addr}, OwnP (G.now F0) t a ↔ OwnP G t a := fun {t a} => by cases t <;> exact Iff.rfl
  cases hl : l.own with
  | true =>
    rw [own_slot hl, own_slot hl]
    exact ⟨fun ⟨a, e, z⟩ => ⟨a, e, z.nf, ow.mp z.ow, z.ob⟩, fun ⟨a, e, z⟩ => ⟨a, e, z.nf, ow.mpr z.ow, z.ob⟩⟩
  | false =>
    rcases not_own hl with ⟨x, rfl⟩ | ⟨v, rfl⟩
    · exact Iff.rfl
    · exact Iff.rfl
theorem ns_now {F0 : Hp} {t : Option Nat} {b : Addr} {xs : List PD} : Ns K (G.now F0) F H t b xs ↔ Ns K G F H t b xs := ⟨fun z => ⟨z.nf, z.ow, z.ob⟩, fun z => ⟨z.nf, z.ow, z.ob⟩⟩
theorem frs_now {l : Lc} {F0 : Hp} {a : Addr} : Frs K (G.now F0) F H ρ σ l a ↔ Frs K G F H ρ σ l a := ⟨fun z => ⟨z.hf, z.hn, fun b xs hb => ⟨ns_now.mp (z.ns b xs hb).1, (z.ns b xs hb).2⟩⟩, fun z => ⟨z.hf, z.hn, fun b xs hb => ⟨ns_now.mpr (z.ns b xs hb).1, (z.ns b xs hb).2⟩⟩⟩
theorem rs_now {l : Lc} {F0 : Hp} {v : V} : RsOk K (G.now F0) F H ρ σ l v ↔ RsOk K G F H ρ σ l v := by
  have ow : ∀ {t : Option Nat} {a : Addr}, OwnP (G.now F0) t a ↔ OwnP G t a := fun {t a} => by cases t <;> exact Iff.rfl
  cases hl : l.own with
  | true =>
    rw [RsOk.ref_own hl, RsOk.ref_own hl]
    exact ⟨fun ⟨a, e, t, z, q⟩ => ⟨a, e, t, ⟨z.nf, ow.mp z.ow, z.ob⟩, frs_now.mp q⟩, fun ⟨a, e, t, z, q⟩ => ⟨a, e, t, ⟨z.nf, ow.mpr z.ow, z.ob⟩, frs_now.mpr q⟩⟩
  | false =>
    rcases not_own hl with ⟨x, rfl⟩ | ⟨v, rfl⟩
    · exact Iff.rfl
    · exact Iff.rfl
theorem Rel.toNow {P : Pn} (R : @Rel P K G ρ F σ H) : @Rel (Pn.at_ (G.now F)) K (G.now F) ρ F σ H :=
  @Rel.mk (Pn.at_ (G.now F)) _ _ _ _ _ _ R.fh (Same.refl _) R.fr (fun b h1 h2 => absurd h2 h1) R.ih R.len (fun i l e => slot_now.mpr (R.sl i l e)) R.ds Pins.refl (fun i l b xs e h => ⟨ns_now.mpr (R.ns i l b xs e h).1, (R.ns i l b xs e h).2⟩)
theorem now_ff {P : Pn} {ρ' : En} {σ' : L2.St} (R' : @Rel P K (G.now F) ρ' F' σ' H') : Same F F' := R'.ff
theorem now_nw {P : Pn} {ρ' : En} {σ' : L2.St} (R' : @Rel P K (G.now F) ρ' F' σ' H') : (∀ b, F' b ≠ none → F b = none → G.H0 b = none ∨ ∃ us, F' b = some (.tup us)) ∧ Same F' H' ∧ (∀ b o, G.H0 b = some o → b ∉ G.io → H' b = some o) ∧ (∀ a, a ∈ G.io → H' a ≠ none ∧ G.H0 a ≠ none) ∧ σ'.length = ρ'.length ∧
    (∀ (i : Nat) (l : Lc), ρ'[i]? = some (some l) → SlotOk K G F' H' l σ'[i]?) ∧ (∀ (i j : Nat) (l m : Lc) (v : V), ρ'[i]? = some (some l) → ρ'[j]? = some (some m) → l.own = true → m.own = true → σ'[i]? = some (some v) → σ'[j]? = some (some v) → i = j) ∧ ∀ (i : Nat) (l : Lc) (b : Addr) (xs : List PD), ρ'[i]? = some (some l) → (b, xs) ∈ l.fp → Ns K G F' H' l.tag b xs ∧ ∀ (j : Nat) (m : Lc), ρ'[j]? = some (some m) → (m.own = true → σ'[j]? ≠ some (some (.ref b))) ∧ ∀ ys, (b, ys) ∈ m.fp → j = i :=
  ⟨R'.nw, R'.fh, R'.fr, R'.ih, R'.len, fun i l e => slot_now.mp (R'.sl i l e), R'.ds, fun i l b xs e h => ⟨ns_now.mp (R'.ns i l b xs e h).1, (R'.ns i l b xs e h).2⟩⟩
theorem now_back [Pn] {ρ' : En} {σ' : L2.St} (R : Rel K G ρ F σ H) (sf : Same F F') (h : (∀ b, F' b ≠ none → F b = none → G.H0 b = none ∨ ∃ us, F' b = some (.tup us)) ∧ Same F' H' ∧ (∀ b o, G.H0 b = some o → b ∉ G.io → H' b = some o) ∧ (∀ a, a ∈ G.io → H' a ≠ none ∧ G.H0 a ≠ none) ∧ σ'.length = ρ'.length ∧
    (∀ (i : Nat) (l : Lc), ρ'[i]? = some (some l) → SlotOk K G F' H' l σ'[i]?) ∧ (∀ (i j : Nat) (l m : Lc) (v : V), ρ'[i]? = some (some l) → ρ'[j]? = some (some m) → l.own = true → m.own = true → σ'[i]? = some (some v) → σ'[j]? = some (some v) → i = j) ∧ ∀ (i : Nat) (l : Lc) (b : Addr) (xs : List PD), ρ'[i]? = some (some l) → (b, xs) ∈ l.fp → Ns K G F' H' l.tag b xs ∧ ∀ (j : Nat) (m : Lc), ρ'[j]? = some (some m) → (m.own = true → σ'[j]? ≠ some (some (.ref b))) ∧ ∀ ys, (b, ys) ∈ m.fp → j = i) : Rel K G ρ' F' σ' H' := by
  obtain ⟨h1, h2, h3, h4, h5, h6, h7, h8⟩ := h
  refine ⟨h2, R.ff.trans sf, h3, fun b q1 q2 => ?_, h4, h5, h6, h7, R.ok, h8⟩
  cases e : F b with
  | none => exact h1 b q1 e
  | some u =>
    rcases R.nw b (by rw [e]; simp) q2 with z | ⟨us, z⟩
    · exact .inl z
    · exact .inr ⟨us, sf _ _ z⟩
theorem Rel.ofNow {P P' : Pn} {ρ' : En} {σ' : L2.St} (R : @Rel P K G ρ F σ H) (R' : @Rel P' K (G.now F) ρ' F' σ' H') : @Rel P K G ρ' F' σ' H' ∧ Same F F' :=
  ⟨@now_back _ _ _ _ _ _ _ _ P _ _ R (now_ff R') (now_nw R'), now_ff R'⟩
theorem Rel.rootN {G0 G' : Gm} {P : Pn} (R : @Rel P K G ρ F σ H) {ρ' : En} {σ' : L2.St} (R' : @Rel (Pn.at_ (G.now F)) K G' ρ' F' σ' H') : @Rel P K G ρ' F' σ' H' ∧ Same F F' :=
  R.ofNow (Rel.root (@Rel.ok (Pn.at_ (G.now F)) _ _ _ _ _ _ R') R')
theorem Rel.gone [Pn] (R : Rel K G ρ F σ H) (i : Nat) : Rel K G (ρ.set i none) F (σ.set i none) H := by
  refine R.weak (by rw [List.length_set, List.length_set]; exact R.len) fun j l e => ?_
  rcases set_get e with ⟨_, _, z⟩ | ⟨hj, e⟩
  · cases z
  · exact ⟨e, List.getElem?_set_ne (Ne.symm hj)⟩
theorem CtOk.toNow {P : Pn} {D' : DE} {D : Ends} (R : @Rel P K G ρ F σ H) (k : @CtOk P K G F D' D) : @CtOk (Pn.at_ (G.now F)) K (G.now F) F D' D :=
  @CtOk.mk (Pn.at_ (G.now F)) _ _ _ _ _ (fun ρ σ H F' h R' s => @CtOk.nx P _ _ _ _ _ k _ _ _ _ h (R.ofNow R').1 s) (fun l ρ v σ H F' h R' s r => @CtOk.rt P _ _ _ _ _ k _ _ _ _ _ _ h (R.ofNow R').1 s (rs_now.mp r)) (fun ρ σ H F' h R' s => @CtOk.bk P _ _ _ _ _ k _ _ _ _ h (R.ofNow R').1 s) fun ρ σ H F' h R' s => @CtOk.ct P _ _ _ _ _ k _ _ _ _ h (R.ofNow R').1 s
theorem CtOk.gone [Pn] {D' : DE} {D : Ends} (k : CtOk K G F D' D) (i : Nat) : CtOk K G F (D'.gone i) (D.gone i) :=
  ⟨fun ρ σ H F' h R s => k.nx _ _ _ _ h (R.gone i) s, k.rt, fun ρ σ H F' h R s => k.bk _ _ _ _ h (R.gone i) s, fun ρ σ H F' h R s => k.ct _ _ _ _ h (R.gone i) s⟩
end
theorem wMix_of {X : Cx} {G : Gm} {F : Hp} {D' : DE} {D : Ends} [Pn] (k : CtOk X.K G F D' D) {x : Xd} {cls : Value} {d : Option Addr} {ρ : En} {σ : L2.St} {H : Hp} (R : Rel X.K G ρ F σ H) (xc : XcOk X.K F x cls d) :
    ∀ {hs : List ExceptHandler} {l : List Hd3} {cs : List Value}, LHd X hs l cs → uMix D' l x ρ → wMix X.K (fun _ _ _ _ => False) D (cl3 X.K l cs) cls d σ H := by
  intro hs l cs h
  induction h with
  | nil => exact fun z => z.elim
  | bare hc hsub hsu r ih =>
    rintro ⟨b, hb, h1, h2⟩
    refine ⟨b, by rw [xc.1]; exact hsub _ hb, fun z => ih (h1 z), fun z a ha => ?_⟩
    have := h2 z a d (xc.df a).2
    exact ⟨_, x.1, xc.1, G, ρ, F, D', R, this, k⟩
  | @named _ _ i _ _ _ _ _ _ _ _ _ _ hc hsub hi hln hsu r ih =>
    rintro ⟨b, hb, h1, h2⟩
    refine ⟨b, by rw [xc.1]; exact hsub _ hb, fun z => ih (h1 z), fun z a ha => ?_⟩
    have := h2 z a d (xc.df a).2
    exact ⟨_, x.1, xc.1, G, ρ.set i (some (.d (excV a d x))), F, D'.gone i, R.store_d i (xc.df a).1, this, k.gone i⟩
theorem LS.try_ [Pn] {X : Cx} {body : List Stmt} {h₀ : ExceptHandler} {hds : List ExceptHandler} {l : List Hd3} {cs : List Value} {pos : Pos} {tb : (Xd → En → Prop) → TSt} (hs : X.stack = X.env :: X.outer) (hf : X.env.frame = some X.env.locals) (hN : X.N.Nodup)
    (hb : ∀ [Pn] (u : Xd → En → Prop) (pn : List (Addr × Obj)) (xe : Value → Shared → Prop), Takes (X.tr pn xe) (WD X.K u) → PassesOwn (model X.prog X.w) X.A X.env xe → LSs (X.tr pn xe) body (tb u))
    (hh : LHd X (h₀ :: hds) l cs) : LS X (.Try body (h₀ :: hds) [] [] pos) (sTry tb l) := by
  refine ⟨psImp (ps_try_mix (tb := fun W D σ H => ∃ (P : Pn) (u : Xd → En → Prop), (∀ cls d σ H, @WD P X.K u cls d σ H → W cls d σ H) ∧ @liftS P X.K (tb u) D σ H) (Wout := fun _ _ _ _ => False) hs hf hN takes_none5
    (fun W pn xe tk hp => ⟨fun pins s σ H D I h => ?_⟩) hh.mix) fun D σ H h => ?_⟩
  · obtain ⟨P, u, hw, h⟩ := h
    exact (@hb P u pn xe (tk.imp hw) hp).p.run pins s σ H D I h
  · obtain ⟨G, ρ, F, D', R, q, k⟩ := h
    refine ⟨Pn.at_ (G.now F), uMix D' l, ?_, G.now F, ρ, F, D', R.toNow, q, k.toNow R⟩
    rintro cls d σ1 H1 ⟨G', ρ1, F1, x, R', xc, hu⟩
    obtain ⟨R1, s1⟩ := Rel.rootN (G0 := G) R R'
    exact wMix_of (k.mono s1) R1 xc hh hu
end DL
namespace PySem.W
open PySem PySem.Spec PySem.Calls PyProof.Rows
section
variable {prog : Program} {w : World} {A : Around} {E : Value → Shared → Prop} {K : Frag} {x D : Addr} {ox : Obj} {od : Option Obj}
theorem cls_found (hd : (clsIn K D).isSome = true) (ha : findIn K (.ref D) "__class__" = some (some (.builtin "object.__class__"))) (hn : specialIn K (.builtin "object.__class__") "__get__" = some (some (.builtin "getset_descriptor.__get__")))
    (ht : takesIn K (.builtin "object.__class__") = some true) : findObj K D od "__class__" = some (.bind (.builtin "getset_descriptor.__get__") (.builtin "object.__class__")) := by
  obtain ⟨cd, hc⟩ := Option.isSome_iff_exists.mp hd
  simp only [findObj, hc, ha, hn, ht, Option.bind_some]
theorem exc_class {Q : Option Value → Shared → Prop} {s : Shared} (T : L2.ExcC K D) (X : K.In s.heap) (I : InstAt s.heap x ox D od) (h : Q (some (.ref D)) { s with toks := s.toks + 1 }) : wpAny (model prog w) A (getAttr? (.ref x) "__class__") Q E s := by
  obtain ⟨cd, hcd, _⟩ := any_some T.hd
  have f0 := cls_found (od := od) (by rw [hcd]; rfl) T.ha T.hn T.ht
  obtain ⟨hp, g, dr, t, os⟩ := s
  have ty := I.type (M := model prog w)
  have isx : Looks (model prog w) hp (isInstance (.ref x) (.type "BaseException")) true := ty.andThen (looks_subIn X T.hs)
  have look := looks_find (M := model prog w) X I f0
  have o2 : (Value.builtin "BaseException.__getattribute__" == Value.builtin "object.__getattribute__") = false := by decide +kernel
  have other : (onTheHeap (Value.ref D) && Value.builtin "BaseException.__getattribute__" == Value.builtin "object.__getattribute__") = false := by rw [o2, Bool.and_false]
  unfold getAttr? getAttrBy? getAttrBy
  refine wpAny_bind (wpAny_mkText (wpAny_bind (wpAny_attempt (wpAny_holding (wpAny_bind (ty.at (wpAny_bind ((looks_findIn X T.hg).at ?_))))))))
  show wpAny _ _ (ite (_ = true) _ _) _ _ _
  rw [other, if_neg (by decide)]
  unfold getAttrByItsOwn hookBefore
  refine wpAny_bind ?_
  rw [if_pos (show onTheHeap (Value.ref D) = true from rfl)]
  refine (looks_findIn X T.hk).at (wpAny_bind (wpAny_attempt (wpAny_holding ?_)))
  unfold callGetattribute
  rw [if_neg (show ¬ ((false && onTheHeap (Value.builtin "BaseException.__getattribute__")) = true) by decide)]
  unfold boundAndCalled
  rw [PySem.F.excAttr_ValueError.ga.bind (.ref x)]
  refine wpAny_bind (wpAny_pure (wpAny_call (codeAny_call_builtin PySem.F.excAttr_ValueError.ga.plain PySem.F.entry_bexc_ga ?_)))
  refine @check_slot (model prog w) _ _ ⟨hp, g, dr, t + 1, os⟩ "BaseException.__getattribute__" "BaseException" "__getattribute__" (.ref x) [.str "__class__" t] [] _ (by decide +kernel) (by decide +kernel) isx (PySem.F.args_bexc_ga _ _) ?_
  unfold Builtin.«object.__getattribute__»
  refine wpAny_bind (wpAny_of_eq (a := ((Value.ref x : Value), [Value.str "__class__" t])) (by first | rfl | (simp only [slotArgs]; rfl)) (wpAny_bind (wpAny_pure (wpAny_bind (ty.at (wpAny_bind (look.at ?_)))))))
  refine wpAny_bind (wpAny_holding (wpAny_call (class_get (s := ⟨hp, g, dr, t + 1, os⟩) (ox := ox) (od := od) X I T.hm ?_)))
  refine wpAny_pure ?_
  show wpAny _ _ (handedOut (.ref D)) _ _ _
  rw [handedOut_of (v := .ref D) rfl]
  first
    | exact wpAny_pure (wpAny_pure h)
    | exact wpAny_pure h
    | exact wpAny_pure (wpAny_bind (wpAny_pure (wpAny_pure h)))
theorem exc_kit (T : L2.ExcC K D) : KitX K (.ref x) (.ref D) (fun h => InstAt h x ox D od) := by
  obtain ⟨cd, hcd, _⟩ := any_some T.hd
  unfold clsIn at hcd
  split at hcd
  · rename_i c' d' cd' sl' ho
    refine ⟨fun _ _ _ I => I.type, fun _ _ X _ => ?_, fun h tp dd its n sl X htp => ?_, fun X I k => exc_class T X I k⟩
    · intro A' Q' E' s' k q
      exact wpAny_bind (wpAny_loadPart (k _ _ (X _ _ ho)) (wpAny_pure q))
    · refine Bool.eq_false_iff.mpr fun q => ?_
      obtain rfl : D = tp := Value.ref.inj (beq_iff_eq.mp q)
      cases (X _ _ ho).symm.trans htp
  · cases hcd
end
end PySem.W
namespace DL
open PySem L2 PyProof.Rows StX PySem.Spec
section
variable {X : Cx} {a C C0 : Addr} {d : Option Addr} {oe : Obj} {pn : List (Addr × Obj)} {e e2 : Expr} {pos p : Pos} {i : Nat} {f : Str} {b : Bool} {c : V} {cv : Value}
def dXf (C0 : Addr) (a C : Addr) (d : Option Addr) (i : Nat) (f : Str) : TD := fun ρ Q => match ρ[i]? with
  | some (some (.d v)) => C = C0 ∧ ∃ x y, v = excV a d (C, x) ∧ (d = none → x = []) ∧ fldP x f = some y ∧ Q y ρ
  | _ => False
theorem LD.xf [Pn] (T : XfC X.K C0) (hno : PySem.W.findIn X.K (.ref C0) f = some none) (hz : Zc (.ref C) d oe) (hf : ∃ vs, oe.data = .fields vs) (he : PE (X.suite a ((a, oe) :: pn)) e (tVar i)) (hb : attributeBase e f X.env (eval e X.env) = eval e X.env := by rfl) :
    LD (X.suite a ((a, oe) :: pn)) (.Attribute e f pos) (dXf C0 a C d i f) := by
  by_cases hC : C = C0
  · subst hC
    refine ⟨peImp (pe_xf T hno hz hf he hb) fun σ H Q ⟨G, ρ, F, Q', R, q, k⟩ => ?_⟩
    unfold dXf at q
    split at q
    · rename_i v er
      obtain ⟨_, x, y, rfl, hd, hy, q⟩ := q
      obtain ⟨u, eu, du⟩ := R.sl i _ er
      obtain ⟨rfl, hx⟩ := exc_inv du
      rcases hx with rfl | ⟨dd, us, rfl, h1, h2⟩
      · rw [hd rfl] at hy; cases hy
      · obtain ⟨w, hw, dw⟩ := fld_df h2 hy
        exact ⟨_, eu, rfl, rfl, dd, us, w, rfl, R.fh _ _ h1, hw, k _ _ _ _ _ q R (Same.refl _) dw⟩
    · exact False.elim q
  · refine ⟨⟨fun pins s σ H Q I ⟨G, ρ, F, Q', R, q, k⟩ => ?_⟩⟩
    unfold dXf at q
    split at q
    · exact absurd q.1 hC
    · exact False.elim q
def dXi (C0 : Addr) (b : Bool) (a C : Addr) (d : Option Addr) (i : Nat) : TD := fun ρ Q => match ρ[i]? with
  | some (some (.d v)) => C = C0 ∧ ∃ x, v = excV a d (C, x) ∧ Q (.bool b) ρ
  | _ => False
def rIsD (K : PySem.W.Frag) (D a : Addr) (d : Option Addr) : List V → Hp → VK → Prop := fun xs H Q => ∃ (c : V) (cv : Value) (b : Bool), xs = [.ref a, c] ∧ (∀ u, RelV c u → u = cv) ∧ PySem.W.kitOne K (.ref D) cv = some b ∧ (d = none ∨ ∃ dd us, d = some dd ∧ H dd = some (.xd us)) ∧ Q (.bl b) H
theorem call_isD (T : ExcC X.K C) (hz : Zc (.ref C) d oe) (hf : ∃ vs, oe.data = .fields vs) : CallR (X.suite a ((a, oe) :: pn)) (.builtin "isinstance") (rIsD X.K C a d) := by
  intro pins s σ H xs us Q I r h
  obtain ⟨c, cv, b, rfl, hcv, e, hd, q⟩ := h
  cases r with | cons rx rr => cases rr with | cons rt rr =>
    cases rr
    cases rx
    obtain rfl := hcv _ rt
    obtain ⟨hget, _⟩ := I.pin (a, oe) (List.mem_append.mpr (.inl List.mem_cons_self))
    obtain ⟨vs, hv⟩ := hf
    have J : ∃ od, PySem.W.InstAt s.heap a oe C od := by
      rcases hd with rfl | ⟨dd, us2, rfl, hdd⟩
      · refine ⟨none, hget, hz.1, by unfold PySem.W.notCls; rw [hv], ?_⟩
        rw [hz.2]; trivial
      · obtain ⟨mA, hns, _⟩ : ObjOk X.prog X.w H s.heap dd (.xd us2) := I.hok dd _ hdd
        obtain ⟨od, ho, _⟩ := lookIn_ns hns
        exact ⟨some od, hget, hz.1, by unfold PySem.W.notCls; rw [hv], by rw [hz.2]; exact ho⟩
    obtain ⟨od, J⟩ := J
    exact PySem.W.kia_one (PySem.W.exc_kit T) I.kIn J e (fun z => nomatch z) fun tk => ⟨.bl b, H, I.kept (t' := tk) fun _ _ z => z, rfl, q⟩
theorem LD.xi [Pn] (T : ExcC X.K C0) (hk : PySem.W.kitOne X.K (.ref C0) cv = some b) (hcv : ∀ u, RelV c u → u = cv) (hz : Zc (.ref C) d oe) (hf : ∃ vs, oe.data = .fields vs) (hg : Gl X "isinstance") (hm : X.mg "isinstance" = none)
    (he : PE (X.suite a ((a, oe) :: pn)) e (tVar i)) (he2 : PE (X.suite a ((a, oe) :: pn)) e2 (tC c))
    (hs : starEach [e, e2] X.env = (false, eval e X.env) :: starEach [e2] X.env := by rfl) (hpl : (backTo pos (starEach [e2] X.env)).any (·.1) = false := by rfl) (hs2 : starEach [e2] X.env = (false, eval e2 X.env) :: starEach [] X.env := by rfl) :
    LD (X.suite a ((a, oe) :: pn)) (.Call (.Name "isinstance" p) [e, e2] [] pos) (dXi C0 b a C d i) := by
  by_cases hC : C = C0
  · subst hC
    refine ⟨peImp (pe_callB (call_isD T hz hf) hg hm (by decide +kernel) (pa_cons he (pa_cons he2 pa_nil hs2) hs) (by decide) (by decide) hs hpl) fun σ H Q ⟨G, ρ, F, Q', R, q, k⟩ => ?_⟩
    unfold dXi at q
    split at q
    · rename_i v er
      obtain ⟨_, x, rfl, q⟩ := q
      obtain ⟨u, eu, du⟩ := R.sl i _ er
      obtain ⟨rfl, hx⟩ := exc_inv du
      refine ⟨_, eu, c, cv, b, rfl, hcv, hk, ?_, k _ _ _ _ _ q R (Same.refl _) (.bl _)⟩
      rcases hx with h | ⟨dd, us, h0, h1, _⟩
      · exact .inl h
      · exact .inr ⟨dd, us, h0, R.fh _ _ h1⟩
    · exact False.elim q
  · refine ⟨⟨fun pins s σ H Q I ⟨G, ρ, F, Q', R, q, k⟩ => ?_⟩⟩
    unfold dXi at q
    split at q
    · exact absurd q.1 hC
    · exact False.elim q
theorem pe_gcls {n : Str} {D : Addr} (hg : Gl X n) (hm : X.mg n = some (.ref D)) (hdb : (n == ("__debug__" : Str)) = false := by decide) : PE X (.Name n pos) (tC (.ref D)) :=
  ⟨fun pins s σ H Q I h => ld_glob I hg hm ⟨.ref D, H, I, rfl, h⟩ hdb⟩
theorem cv_ref {D : Addr} : ∀ u, RelV (V.ref D) u → u = .ref D := fun _ h => h
theorem cv_ty {T : String} : ∀ u, RelV (V.ty T) u → u = .type T := fun _ h => h
end
section
variable {P : Program} {w : World} {K : PySem.W.Frag} {mg : Str → Option Value} {base : Heap} {X : Cx} {C : Addr} {e e2 o : Expr} {es : List Expr} {pos apos : Pos} {t ta tb : TD} {tt : TAd} {S : XSpec} {j k : Nat} {ps : List Str} {op : Operator} {σ : L2.St} {H F : Hp} {Q : VK} {m qual : Str} {f : Addr} {fd : FuncData} {u : Xd → En → Prop} {W : WX} {st : Stmt}
structure CalRE (P : Program) (w : World) (K : PySem.W.Frag) (mg : Str → Option Value) (base : Heap) (k : Nat) (R : Addr → Prop) (ps : List Str) (S : XSpec) : Prop where
  ex : ∃ f fd, FnG P w K mg base (L2.CX P w) k f fd ps (liftX K S) ∧ R f ∧ Binds K fd ps []
theorem CalRE.mono {R : Addr → Prop} (h : CalRE P w K mg base j R ps S) (hk : j ≤ k) : CalRE P w K mg base k R ps S := by
  obtain ⟨f, fd, h1, h2⟩ := h.ex
  exact ⟨f, fd, h1.mono hk, h2⟩
end
end DL
namespace DL
open PySem L2 PyProof.Rows
section
variable {G : Gm} {X : Cx} {K : PySem.W.Frag} {F F' F1 F2 H H' H1 : Hp} {ρ ρ1 ρ2 : En} {σ : L2.St} {e e2 e3 tg elt kx iter o : Expr} {es ifs : List Expr} {pos apos cpos : Pos} {oa ob oc : Op1} {ta tb el ek : TD} {c : TTd} {v : V} {x : PD}
def dkD (kvs : List (Key × PD)) : PD := .dict (kvs.map fun p => (keyD p.1, p.2))
theorem dfk_kv {us : List (Key × V)} {kvs : List (Key × PD)} (h : DfK K F us (kvs.map fun p => (keyD p.1, p.2))) : DKv K F us kvs := by
  induction us generalizing kvs with
  | nil =>
    cases kvs with
    | nil => exact .nil
    | cons a b => cases h
  | cons u us ih =>
    cases kvs with
    | nil => cases h
    | cons p r =>
      obtain ⟨k, v⟩ := u
      obtain ⟨k', d⟩ := p
      have keq : ∀ {a b : Key}, keyD a = keyD b → a = b := by
        intro a b e
        cases a <;> cases b <;> simp [keyD] at e <;> rw [e]
      rw [List.map_cons] at h
      generalize hz : keyD (k', d).1 = z at h
      cases h with
      | cons a b => exact .cons ⟨(keq hz).symm, a⟩ (ih b)
theorem Df.dk_at {kvs : List (Key × PD)} (h : Df K F v (dkD kvs)) : ∃ a us, v = .ref a ∧ Rd F a (.dK us) ∧ DKv K F us kvs := by
  unfold dkD at h
  generalize hz : (kvs.map fun p => (keyD p.1, p.2)) = es at h
  cases h with
  | dk ha d => exact ⟨_, _, rfl, ha, dfk_kv (by rw [hz]; exact d)⟩
  | ins _ _ => cases kvs with
    | nil => cases hz
    | cons p r => obtain ⟨k, d⟩ := p; cases k <;> simp [keyD] at hz
  | ex0 => cases kvs with
    | nil => cases hz
    | cons p r => obtain ⟨k, d⟩ := p; cases k <;> simp [keyD] at hz
  | ex1 _ _ => cases kvs with
    | nil => cases hz
    | cons p r => obtain ⟨k, d⟩ := p; cases k <;> simp [keyD] at hz
  | dkL _ _ => cases kvs with
    | nil => cases hz
    | cons p r => obtain ⟨k, d⟩ := p; cases k <;> simp [keyD] at hz
  | ky _ => cases kvs with
    | nil => cases hz
    | cons p r => obtain ⟨k, d⟩ := p; cases k <;> simp [keyD] at hz
def dGetD (t : TD) (oa ob : Op1) : TD := fun ρ Q => t ρ fun l ρ1 => ∃ kvs, l = dkD kvs ∧ oa.run ρ1 fun a ρ2 => ob.run ρ2 fun b ρ3 => res1 ρ3 a fun y => resF ρ3 b fun z => ∃ k, keyP y = some k ∧ Q ((valP kvs k).getD z) ρ3
theorem LD.getD [Pn] (hu : X.A.units + 1 < cLine) (h : LD X o ta) (ha : LO X e oa) (hb : LO X e2 ob) (m : M2 X o "get" apos e e2 cpos) : LD X (.Call (.Attribute o "get" apos) [e, e2] [] cpos) (dGetD ta oa ob) :=
  ⟨peImp (pe_dget2 hu h.p ha.p hb.p m) fun σ H Q ⟨G, ρ, F, Q', R, q, c⟩ => ⟨G, ρ, F, _, R, q, fun l ρ1 v H1 F1 h1 R1 s1 d1 => by
    obtain ⟨kvs, hl, h1⟩ := h1
    subst hl
    obtain ⟨a, us, ev, ea, ok⟩ := d1.dk_at
    subst ev
    refine ⟨a, rfl, .inl ⟨us, rdM R1.fh ea⟩, G, ρ1, F1, _, R1, h1, fun x ρ2 w H2 F2 h2 R2 s2 ax => ⟨G, ρ2, F2, _, R2, h2, fun y ρ3 w2 H3 F3 h3 R3 s3 ay => ?_⟩⟩
    obtain ⟨y', h4, dx⟩ := res1_dr R3 (ax.mono s3) h3
    obtain ⟨z', h5, dz⟩ := resF_df R3 ay h4
    obtain ⟨k, hk, h6⟩ := h5
    have ea3 := rdM R3.fh (rdM s3 (rdM s2 ea))
    refine ⟨_, .inl ⟨us, k, ea3, keyP_v hk dx, rfl⟩, ?_⟩
    have ok3 := (ok.mono s2).mono s3
    rcases ok3.val k with ⟨e1, e2⟩ | ⟨v', x', e1, e2, d'⟩
    · rw [e1]; rw [e2] at h6
      exact c _ _ _ _ _ h6 R3 (s1.trans (s2.trans s3)) dz
    · rw [e1]; rw [e2] at h6
      exact c _ _ _ _ _ h6 R3 (s1.trans (s2.trans s3)) d'⟩⟩
end
end DL
namespace DL
open PySem L2 PyProof.Rows
section
variable {X : Cx} {e : Expr} {oa : Op1} {t : TD}
end
end DL
namespace L2
open PySem PySem.Spec PyProof.Rows
section
variable {X : Cx} {kx vx tg it : Expr} {ifs : List Expr} {scope : Scope} {own : List (Str × Nat)} {pos : Pos} {src : TI} {bind : TG} {when_ : TT} {key val : TE}
end
end L2
namespace DL
open PySem L2 PyProof.Rows
abbrev TKd := En → (List Key → En → Prop) → Prop
def liftK [Pn] (K : PySem.W.Frag) (t : TKd) : TE := fun σ H Q => ∃ G ρ F Q', Rel K G ρ F σ H ∧ t ρ Q' ∧ ∀ ks ρ' b H' F', Q' ks ρ' → Rel K G ρ' F' σ H' → Same F F' → F' b = some (.tup (ks.map kV)) → Q (.ref b) H'
structure LK [Pn] (X : Cx) (e : Expr) (t : TKd) : Prop where
  p : PE X e (liftK X.K t)
def kTupl (t : TAd) : TKd := fun ρ Q => t ρ fun as ρ1 => resFA ρ1 as fun xs => ∃ ks : List Key, xs = ks.map keyD ∧ Q ks ρ1
section
variable {G : Gm} {X : Cx} {K : PySem.W.Frag} {F F' F1 F2 H H' H1 : Hp} {ρ ρ1 ρ2 : En} {σ : L2.St} {e e2 e3 tg elt kx iter o : Expr} {es ifs : List Expr} {pos apos cpos p2 : Pos} {oa ob oc : Op1} {ta tb el : TD} {ek : TKd} {c : TTd} {v : V} {x : PD} {s : Nat}
theorem LK.tup [Pn] {t : TAd} {k : Nat} (h : LA X es t) (hn : es.length ≤ 100000 := by decide) : LK X (.Tuple es k pos) (kTupl t) := ⟨peImp (pe_tup h.p) fun σ H Q ⟨G, ρ, F, Q', R, q, c⟩ => ⟨G, ρ, F, _, R, q, fun as ρ1 vs H1 F1 h1 hl R1 s1 a1 => by
  obtain ⟨xs, h2, d⟩ := resFA_df R1 a1 h1
  obtain ⟨ks, rfl, h3⟩ := h2
  have ev := keys_of d
  subst ev
  refine ⟨Nat.le_trans (by rw [← a1.length, hl]; exact hn) (by decide), fun p hp => ?_⟩
  have g := Grow.frozen R1.fh hp (.tup (ks.map kV))
  exact c _ _ _ _ _ h3 (R1.grow g) (s1.trans g.ff) upd_same⟩⟩
end
end DL
namespace L2
open PySem PyProof.Rows PySem.Spec
end L2
namespace DL
open PySem L2 PyProof.Rows PySem.Spec
section
variable {X : Cx} {K : PySem.W.Frag}
end
end DL
namespace DL
open PySem L2 PyProof.Rows
def kyP (ks : List Key) : PD := .dict [(.bool false, .tuple (ks.map keyD))]
section
variable {G : Gm} {X : Cx} {K : PySem.W.Frag} {F F' F1 F2 H H' H1 : Hp} {ρ ρ1 ρ2 : En} {σ : L2.St} {e e2 e3 tg elt kx ve ke o : Expr} {es : List Expr} {pos apos cpos p p2 : Pos} {oa ob oc : Op1} {ta tb tv el : TD} {tt : TAd} {ek : TKd} {c : TTd} {v : V} {x : PD} {s k : Nat} {tf fa fb : TF}
theorem keyD_inj {a b : Key} (e : keyD a = keyD b) : a = b := by cases a <;> cases b <;> simp [keyD] at e <;> rw [e]
theorem keysD_inj : ∀ {a b : List Key}, a.map keyD = b.map keyD → a = b
  | [], [], _ => rfl
  | [], _ :: _, h => by cases h
  | _ :: _, [], h => by cases h
  | a :: r, b :: t, h => by
    rw [List.map_cons, List.map_cons, List.cons.injEq] at h
    rw [keyD_inj h.1, keysD_inj h.2]
theorem Df.ky_at {ks : List Key} (h : Df K F v (kyP ks)) : ∃ b, v = .ref b ∧ F b = some (.tup (ks.map kV)) := by
  unfold kyP at h
  generalize hz : ks.map keyD = zs at h
  cases h with
  | dk _ h2 => exact absurd rfl (dict_keys h2)
  | ky q => rw [keysD_inj hz]; exact ⟨_, rfl, q⟩
def kD (t : TD) : TKd := fun ρ Q => t ρ fun x ρ1 => ∃ ks, x = kyP ks ∧ Q ks ρ1
theorem LK.ofD [Pn] (h : LD X e ta) : LK X e (kD ta) := ⟨peImp h.p fun σ H Q ⟨G, ρ, F, Q', R, q, c⟩ => ⟨G, ρ, F, _, R, q, fun x ρ1 v H1 F1 h1 R1 s1 d => by
  obtain ⟨ks, rfl, h2⟩ := h1
  obtain ⟨b, rfl, hb⟩ := d.ky_at
  exact c _ _ _ _ _ h2 R1 s1 hb⟩⟩
theorem Grow.keys {us : List (List Key × V)} {bs : List Addr} (h : Same F H) (hk : IsKeys H us bs) : Grow F H (fun b => if b ∈ bs then H b else F b) H := by
  refine ⟨fun b u e => ?_, Same.refl _, fun b u e => ?_, fun b h1 h2 => ?_⟩
  · show (if b ∈ bs then H b else F b) = some u
    by_cases hb : b ∈ bs
    · rw [if_pos hb]; exact h _ _ e
    · rw [if_neg hb]; exact e
  · have e : (if b ∈ bs then H b else F b) = some u := e
    by_cases hb : b ∈ bs
    · rw [if_pos hb] at e; exact e
    · rw [if_neg hb] at e; exact h _ _ e
  · by_cases hb : b ∈ bs
    · right
      show ∃ us, (if b ∈ bs then H b else F b) = _
      rw [if_pos hb]
      clear h1 h2
      unfold IsKeys at hk
      induction hk with
      | nil => cases hb
      | cons a _ ih =>
        rcases List.mem_cons.mp hb with rfl | hb
        · exact ⟨_, a⟩
        · exact ih hb
    · exact absurd (show (if b ∈ bs then H b else F b) = none by rw [if_neg hb]; exact h2) h1
def fTake (i : Nat) : TF := fun ρ Q => match ρ[i]? with
  | some (some (.dt none kvs)) => Q (.dt none kvs) (ρ.set i none)
  | _ => False
theorem LF.take [Pn] (i : Nat) (h : PE X e (tVar i)) : LF X e (fTake i) := ⟨peImp h fun σ H Q ⟨G, ρ, F, Q', R, q, c⟩ => by
  unfold fTake at q
  split at q
  · rename_i kvs er
    obtain ⟨a, es, at_⟩ := R.at_ er rfl
    refine ⟨_, es, c _ _ _ H F q (R.drop i) (Same.refl _) ⟨a, rfl, rfl, at_, R.leave er rfl es⟩⟩
  · exact False.elim q⟩
def fIte (t : TTd) (fa fb : TF) : TF := fun ρ Q => t ρ fun b ρ1 => brB b (fa ρ1 Q) (fb ρ1 Q)
theorem LF.ite [Pn] (h : LT X e c) (h2 : LF X e2 fa) (h3 : LF X e3 fb) : LF X (.IfExp e e2 e3 pos) (fIte c fa fb) := ⟨peImp (pe_ifExp h.p h2.p h3.p) fun σ H Q ⟨G, ρ, F, Q', R, q, k⟩ => ⟨G, ρ, F, _, R, q, fun b ρ1 H1 F1 h1 R1 s1 => by
  cases b with
  | true => exact ⟨G, ρ1, F1, Q', R1, h1.1 rfl, fun x ρ2 v H2 F2 h2 R2 s2 d => k _ _ _ _ _ h2 R2 (s1.trans s2) d⟩
  | false => exact ⟨G, ρ1, F1, Q', R1, h1.2 rfl, fun x ρ2 v H2 F2 h2 R2 s2 d => k _ _ _ _ _ h2 R2 (s1.trans s2) d⟩⟩⟩
end
end DL
namespace DL
open PySem L2 PyProof.Rows
section
variable {G : Gm} {X : Cx} {K : PySem.W.Frag} {F F' F1 F2 H H' H1 : Hp} {ρ ρ1 ρ2 : En} {σ : L2.St} {e e2 e3 o : Expr} {es : List Expr} {pos apos cpos : Pos} {oa ob oc : Op1} {ta tb tc : TD} {ek : TKd} {c : TTd} {v : V} {x : PD} {s k : Nat} {tf : TF}
end
end DL
namespace DL
open PySem L2 PyProof.Rows StX
section
variable {G : Gm} {X : Cx} {K : PySem.W.Frag} {F F' H H' : Hp} {ρ : En} {σ : L2.St} {e e2 o : Expr} {es : List Expr} {pos p2 : Pos} {oa ob : Op1} {ta tb : TD} {tf : TF} {v : V} {x : PD} {C : Addr} {nm : Str}
theorem Rel.putNs [Pn] {i : Nat} {l m : Lc} {a d : Addr} {oo : HO} {xs : List PD} (R : Rel K G ρ F σ H) (e : ρ[i]? = some (some l)) (ho : l.own = true) (es : σ[i]? = some (some (.ref a))) (ok : HoOk K F m oo) (ht : m.tag = l.tag) (r : RsOk K G F H ρ σ (.ls none xs) (.ref d))
    (hfp : ∀ c zs, (c, zs) ∈ m.fp → (c, zs) = (d, xs) ∨ (c, zs) ∈ l.fp) : Rel K G (ρ.set i (some m)) F σ (upd H a oo) := by
  obtain ⟨d', ed, _, ⟨dnf, dow, od, edo, dok⟩, fr⟩ := r
  cases ed
  have dow : G.H0 d = none := dow
  have hda : a ≠ d := fun z => fr.hf i l e ho (by rw [es, z])
  have dob : ∃ vs, H d = some (.lst vs) ∧ DfA K F vs xs := by
    cases od <;> first | exact False.elim dok | exact ⟨_, edo, dok⟩
  obtain ⟨a', es', nf, ow, ob, eo, _⟩ := R.at_ e ho
  rw [es] at es'
  have : a = a' := by simpa using es'
  subst this
  have ne : ∀ (j : Nat) (n : Lc), ρ[j]? = some (some n) → n.own = true → j ≠ i → σ[j]? ≠ some (some (.ref a)) := fun j n q hn hj z => hj (R.ds j i n l _ q e hn ho z es)
  have hma := ok.own
  have nna := R.noN_at e ho es
  have own : ∀ {j : Nat} {n : Lc}, (ρ.set i (some m))[j]? = some (some n) → n.own = true → ∃ n0, ρ[j]? = some (some n0) ∧ n0.own = true := fun {j n} q hn => by
    rcases set_get q with ⟨rfl, _, z⟩ | ⟨_, q⟩
    · exact ⟨l, e, ho⟩
    · exact ⟨n, q, hn⟩
  refine ⟨fun c u q => ?_, R.ff, fun c u q hc => ?_, R.nw, fun c hc => ⟨?_, (R.ih c hc).2⟩, by rw [List.length_set]; exact R.len, fun j n q => ?_, fun j k n r u q1 q2 h1 h2 q3 q4 => ?_, R.ok, fun j n c zs q hc => ?_⟩
  · rw [upd_ne (ne_of_none q nf)]; exact R.fh _ _ q
  · have : c ≠ a := by
      rintro rfl
      cases ht' : l.tag with
      | none => rw [ht'] at ow; have ow : G.H0 c = none := ow; rw [q] at ow; cases ow
      | some k => rw [ht'] at ow; exact hc (List.mem_of_getElem? ow)
    rw [upd_ne this]; exact R.fr c u q hc
  · by_cases hca : c = a
    · subst hca; rw [upd_same]; simp
    · rw [upd_ne hca]; exact (R.ih c hc).1
  · rcases set_get q with ⟨rfl, _, z⟩ | ⟨hj, q⟩
    · cases z
      rw [own_slot hma]
      exact ⟨a, es, nf, by rw [ht]; exact ow, oo, upd_same, ok⟩
    · have z := R.sl j n q
      cases hn : n.own with
      | true =>
        rw [own_slot hn] at z ⊢
        obtain ⟨c, e1, h1, h2, u, h3, h4⟩ := z
        have hc : c ≠ a := fun w => ne j n q hn hj (by rw [e1, w])
        exact ⟨c, e1, h1, h2, u, by rw [upd_ne hc]; exact h3, h4⟩
      | false =>
        rcases not_own hn with ⟨x, rfl⟩ | ⟨v, rfl⟩
        · exact z
        · exact z
  · obtain ⟨n0, p1, p2⟩ := own q1 h1
    obtain ⟨r0, p3, p4⟩ := own q2 h2
    exact R.ds j k n0 r0 u p1 p3 p2 p4 q3 q4
  · rcases set_get q with ⟨rfl, hl, z⟩ | ⟨hj, qo⟩
    · cases z
      rcases hfp c zs hc with z | z
      · cases z
        obtain ⟨vs, e1, d1⟩ := dob
        refine ⟨⟨dnf, .inl dow, vs, by rw [upd_ne (Ne.symm hda)]; exact e1, d1⟩, fun k n q2 => ?_⟩
        rcases set_get q2 with ⟨rfl, _, z⟩ | ⟨hk, q2⟩
        · cases z; exact ⟨fun _ => fr.hf k l e ho, fun _ _ => rfl⟩
        · exact ⟨fr.hf k n q2, fun ws hw => absurd hw (fr.hn k n ws q2)⟩
      · obtain ⟨⟨z1, z2, us, z3, z4⟩, w⟩ := R.ns j l c zs e z
        have hca : c ≠ a := fun q' => nna j l zs e (by rw [← q']; exact z)
        refine ⟨⟨z1, by rw [ht]; exact z2, us, by rw [upd_ne hca]; exact z3, z4⟩, fun k n q2 => ?_⟩
        rcases set_get q2 with ⟨rfl, _, z'⟩ | ⟨hk, q2⟩
        · cases z'; exact ⟨fun _ => (w k l e).1 ho, fun _ _ => rfl⟩
        · exact w k n q2
    · obtain ⟨⟨z1, z2, us, z3, z4⟩, w⟩ := R.ns j n c zs qo hc
      have hca : c ≠ a := fun q' => nna j n zs qo (by rw [← q']; exact hc)
      refine ⟨⟨z1, z2, us, by rw [upd_ne hca]; exact z3, z4⟩, fun k r q2 => ?_⟩
      rcases set_get q2 with ⟨rfl, _, z⟩ | ⟨hk, q2⟩
      · cases z
        refine ⟨fun _ => (w k l e).1 ho, fun ws hw => ?_⟩
        rcases hfp c ws hw with z | z
        · cases z; exact absurd hc (fr.hn j n zs qo)
        · exact (w k l e).2 ws z
      · exact w k r q2
def getF (f : Str) : List (Str × PD) → Option PD
  | [] => none
  | (g, y) :: r => if g = f then some y else getF f r
def noNs (f : Str) : List (Str × Addr × List PD) → Bool
  | [] => true
  | (g, _) :: r => !(decide (g = f)) && noNs f r
theorem kv_get : ∀ {us : List (Str × V)} {fs : List (Str × PD)} {r : List (Str × V)}, DKv K F us fs → ∀ {y : PD}, getF nm fs = some y → ∃ v, (us ++ r).lookup nm = some v ∧ Df K F v y
  | [], fs, r, h, y, e => by cases h; cases e
  | (k, u) :: us, fs, r, h, y, e => by
    cases h with
    | @cons _ q _ ds a b =>
      obtain ⟨k', d⟩ := q
      obtain ⟨a1, a2⟩ := a
      have a1 : k = k' := a1
      subst a1
      unfold getF at e
      by_cases hk : k = nm
      · rw [if_pos hk] at e; cases e; subst hk
        exact ⟨u, by simp [List.lookup], a2⟩
      · rw [if_neg hk] at e
        obtain ⟨v, h1, h2⟩ := kv_get (r := r) b e
        refine ⟨v, ?_, h2⟩
        have nb : (nm == k) = false := beq_eq_false_iff_ne.mpr (Ne.symm hk)
        simp only [List.cons_append, List.lookup, nb]
        exact h1
theorem kv_skip : ∀ {us : List (Str × V)} {fs : List (Str × PD)} {r : List (Str × V)}, DKv K F us fs → noF nm fs = true → (us ++ r).lookup nm = r.lookup nm
  | [], fs, r, h, e => by cases h; rfl
  | (k, u) :: us, fs, r, h, e => by
    cases h with
    | @cons _ q _ ds a b =>
      obtain ⟨k', d⟩ := q
      obtain ⟨a1, a2⟩ := a
      have a1 : k = k' := a1
      subst a1
      unfold noF at e
      rw [Bool.and_eq_true] at e
      have hk : k ≠ nm := by simpa using e.1
      have nb : (nm == k) = false := beq_eq_false_iff_ne.mpr (Ne.symm hk)
      simp only [List.cons_append, List.lookup, nb]
      exact kv_skip b e.2
theorem ns_look {b : Addr} {xs : List PD} : ∀ {ns : List (Str × Addr × List PD)}, getN nm ns = some (b, xs) → (ns.map fun n => (n.1, V.ref n.2.1)).lookup nm = some (.ref b)
  | (g, z) :: r, h => by
    unfold getN at h
    by_cases e : g = nm
    · rw [if_pos e] at h; cases h; subst e; simp [List.lookup]
    · rw [if_neg e] at h
      have nb : (nm == g) = false := beq_eq_false_iff_ne.mpr (Ne.symm e)
      simp only [List.map_cons, List.lookup, nb]
      exact ns_look h
theorem ns_none : ∀ {ns : List (Str × Addr × List PD)}, noNs nm ns = true → (ns.map fun n => (n.1, V.ref n.2.1)).lookup nm = none
  | [], _ => rfl
  | (g, z) :: r, h => by
    unfold noNs at h
    rw [Bool.and_eq_true] at h
    have hk : g ≠ nm := by simpa using h.1
    have nb : (nm == g) = false := beq_eq_false_iff_ne.mpr (Ne.symm hk)
    simp only [List.map_cons, List.lookup, nb]
    exact ns_none h.2
theorem Rel.nb_at [Pn] {s : Nat} {p : Option Nat} {fs : List (Str × PD)} {ns : List (Str × Addr × List PD)} (R : Rel K G ρ F σ H) (er : ρ[s]? = some (some (.nb p C fs ns))) : ∃ a dx u1, σ[s]? = some (some (.ref a)) ∧ H a = some (.ins C dx (u1 ++ ns.map fun n => (n.1, V.ref n.2.1))) ∧ DKv K F u1 fs ∧ (ns.map fun n => n.2.1).Nodup := by
  obtain ⟨a, es, nf, ow, o, eo, ok⟩ := R.at_ er rfl
  cases o <;> first | exact False.elim ok | skip
  obtain ⟨rfl, ⟨u1, rfl, h3⟩, h4⟩ := ok
  exact ⟨a, _, u1, es, eo, h3, h4⟩
def dFldS (C : Addr) (s : Nat) (f : Str) : TD := fun ρ Q => match ρ[s]? with
  | some (some (.nb _ B fs _)) => B = C ∧ ∃ y, getF f fs = some y ∧ Q y ρ
  | some (some (.ob _ B fs)) => B = C ∧ ∃ y, getF f fs = some y ∧ Q y ρ
  | _ => False
theorem LD.fldS [Pn] {s : Nat} (hc : Cls X.K C) (hn : NoAttr X.K C nm) (h : PE X e (tVar s)) (hb : attributeBase e nm X.env (eval e X.env) = eval e X.env := by rfl) : LD X (.Attribute e nm pos) (dFldS C s nm) :=
  ⟨peImp (pe_fld h hb) fun σ H Q ⟨G, ρ, F, Q', R, q, c⟩ => by
    unfold dFldS at q
    split at q
    · rename_i p B fs ns er
      obtain ⟨rfl, y, hy, q⟩ := q
      obtain ⟨a, dx, u1, es, ea, d, _⟩ := R.nb_at er
      obtain ⟨v, e1, dv⟩ := kv_get d hy
      exact ⟨_, es, a, _, dx, _, v, rfl, ea, hc, hn, e1, c _ _ _ _ _ q R (Same.refl _) dv⟩
    · rename_i p B fs er
      obtain ⟨rfl, y, hy, q⟩ := q
      obtain ⟨a, es, nf, ow, o, eo, ok⟩ := R.at_ er rfl
      cases o <;> first | exact False.elim ok | skip
      rename_i B' dx us
      obtain ⟨rfl, ok⟩ := ok
      obtain ⟨v, e1, dv⟩ := kv_get (r := []) ok hy
      rw [List.append_nil] at e1
      exact ⟨_, es, a, _, dx, _, v, rfl, eo, hc, hn, e1, c _ _ _ _ _ q R (Same.refl _) dv⟩
    · exact False.elim q⟩
theorem tFld_n [Pn] {s : Nat} {p : Option Nat} {fs : List (Str × PD)} {ns : List (Str × Addr × List PD)} {b : Addr} {xs : List PD} {Q : VK} (hc : Cls K C) (hn : NoAttr K C nm) (R : Rel K G ρ F σ H) (er : ρ[s]? = some (some (.nb p C fs ns))) (hf : noF nm fs = true) (hg : getN nm ns = some (b, xs)) (q : Q (.ref b) H) : tFld K (tVar s) nm σ H Q := by
  obtain ⟨a, dx, u1, es, ea, d, _⟩ := R.nb_at er
  exact ⟨_, es, a, _, dx, _, _, rfl, ea, hc, hn, by rw [kv_skip d hf]; exact ns_look hg, q⟩
theorem LO.f [Pn] {s : Nat} (hc : Cls X.K C) (hn : NoAttr X.K C nm) (h : PE X e (tVar s)) (hb : attributeBase e nm X.env (eval e X.env) = eval e X.env := by rfl) : LO X (.Attribute e nm pos) (.f C s nm) :=
  ⟨peImp (pe_fld h hb) fun σ H Q ⟨G, ρ, F, Q', R, q, c⟩ => by
    dsimp only [Op1.run] at q
    split at q
    · rename_i p B fs ns er
      obtain ⟨rfl, hf, q⟩ := q
      split at q
      · rename_i b xs hg
        exact tFld_n hc hn R er hf hg (c _ _ _ _ _ q R (Same.refl _) rfl)
      · exact False.elim q
    · exact False.elim q⟩
end
end DL
namespace DL
open PySem L2 PyProof.Rows StX
section
variable {G : Gm} {X : Cx} {K : PySem.W.Frag} {F F' H H' : Hp} {ρ : En} {σ : L2.St} {o e e2 i : Expr} {es : List Expr} {pos p2 apos : Pos} {ta ti tv : TD} {tt : TAd} {tf : TF} {v : V} {x : PD} {C : Addr} {m : Str} {k s : Nat} {ps : List Str} {u : Xd → En → Prop}
def goC (S : FSpec) (as : List AV) (ρ : En) (Q : Lc → En → Prop) : Prop := match argsAt ρ as 0 with
  | some (args, is) => nodupB is = true ∧ S.sp args fun r outs => putF ρ ρ is outs fun ρ2 => Q r ρ2
  | none => False
theorem goC_of [Pn] {S : FSpec} {as : List AV} {vs : List V} {Q : VK} {Q' : Lc → En → Prop} {E : XK} (R : Rel K G ρ F σ H) (av : AvA K F σ as vs) (h : goC S as ρ Q') (c : ∀ l ρ' v H' F', Q' l ρ' → Rel K G ρ' F' σ H' → Same F F' → RsOk K G F' H' ρ' σ l v → Q v H') : liftC K S vs H Q E := by
  unfold goC at h
  split at h
  · rename_i args is ea
    obtain ⟨hn, h⟩ := h
    obtain ⟨ios, p3, io, back⟩ := callIo R av ea (nodup_of hn)
    refine ⟨args, F, ios, is.length, _, R.fh, p3, io, h, fun r outs v F' H' q' P => ?_⟩
    obtain ⟨R2, r2⟩ := back P
    have q2 := q'
    change putF _ _ _ _ _ at q2
    rw [putF_eq] at q2
    exact c _ _ _ _ _ q2 R2 P.ff r2
  · exact False.elim h
def isO (C : Addr) (m : Str) (ρ : En) (s : Nat) (k : Prop) : Prop := match ρ[s]? with
  | some (some (.nb _ B fs ns)) => B = C ∧ noF m fs = true ∧ noNs m ns = true ∧ k
  | _ => False
theorem isO_of [Pn] {kk : Prop} (R : Rel K G ρ F σ H) (h : isO C m ρ s kk) : kk ∧ ∃ a dx us, σ[s]? = some (some (.ref a)) ∧ H a = some (.ins C dx us) ∧ us.lookup m = none := by
  unfold isO at h
  split at h
  · rename_i p B fs ns er
    obtain ⟨rfl, h1, h2, h3⟩ := h
    obtain ⟨a, dx, u1, es, ea, d, _⟩ := R.nb_at er
    exact ⟨h3, a, dx, _, es, ea, by rw [kv_skip d h1]; exact ns_none h2⟩
  · exact False.elim h
structure LenC (K : PySem.W.Frag) (C f : Addr) : Prop where
  at_ : PySem.W.findIn K (.ref C) "__len__" = some (some (.ref f))
  fn : PySem.W.isFn K (.ref f) = true
def dLenS (C : Addr) (S : FSpec) (s : Nat) : TD := fun ρ Q => isO C "" ρ s (goC S [.s s] ρ fun l ρ1 => ∃ n : Nat, l = .d (.int n) ∧ n < 1000000 ∧ Q (.int n) ρ1)
def rLenO (X : Cx) (C : Addr) (sp : Sp) : List V → Hp → VK → Prop := fun xs H Q => ∃ a dx us, xs = [V.ref a] ∧ H a = some (.ins C dx us) ∧ sp [.ref a] H (fun v H2 => ∃ n : Nat, v = .int n ∧ n < 1000000 ∧ Q (.int n) H2) E0
theorem cr_lenO {S : FSpec} {f : Addr} {fd : FuncData} (lc : LenC X.K C f) (Gd : FnG X.prog X.w X.K X.mg X.base CX0 k f fd ps (liftC X.K S)) (hr : Room (k + 1) X.A) (hgd : X.A.guards = some []) (hb : Binds X.K fd ps []) : CallR X (.builtin "len") (rLenO X C (liftC X.K S)) := by
  intro pins s σ H xs us Q I r h
  obtain ⟨a, dx, fs, rfl, ea, h⟩ := h
  obtain ⟨u, rfl, rx⟩ := vals1 r
  obtain rfl : u = Value.ref a := rx
  obtain ⟨mA, J, _⟩ := ins_get I.hok ea
  obtain ⟨od, J, _⟩ := J.look
  refine Calls.call_function_entry kind_len plain_len entry_len (args_len1 _) ?_
  unfold Builtin.«len»
  refine wpAny_bind (m := oneArg "len" _) (wpAny_pure ?_)
  refine wpAny_bind (m := callSpecial? (.ref a) (Str.ofString "__len__")) (PySem.W.special_fn I.kIn J lc.at_ (beq_iff_eq.mp lc.fn) (wpAny_mono (runIn (us := [.ref a]) (vs := [V.ref a]) Gd hr hgd hb I (.cons rfl .nil) h) (fun v s' hz => ?_) fun _ _ e => e))
  obtain ⟨v', H', I', rv, n, rfl, hn, q⟩ := hz
  obtain ⟨t, rfl⟩ := rv
  refine wpAny_bind (wpAny_holding (wpAny_pure ?_))
  refine wpAny_bind (wpAny_letGo ?_)
  show wpAny _ _ (if ((n : Nat) : Int) < 0 then _ else _) _ _ _
  rw [if_neg (by omega)]
  show wpAny _ _ (if ((n : Nat) : Int) ≥ 2 ^ 63 then _ else _) _ _ _
  rw [if_neg (by omega)]
  exact wpAny_bind (wpAny_mkInt (wpAny_pure ⟨_, rfl, .int n, H', I'.tok _, ⟨_, rfl⟩, q⟩))
theorem LD.lenS [Pn] {S : FSpec} {p p3 : Pos} (c : CalR X.prog X.w X.K X.mg X.base k (LenC X.K C) ps S) (hr : Room (k + 1) X.A) (hgd : X.A.guards = some []) (hg : Gl X "len") (hm : X.mg "len" = none) (hv : bootBuiltins "len" = some (.builtin "len")) (ho : PE X o (tVar s)) (hs : starEach [o] X.env = (false, eval o X.env) :: starEach [] X.env := by rfl) (hpl : (backTo p3 (starEach [] X.env)).any (·.1) = false := by rfl) : LD X (.Call (.Name "len" p) [o] [] p3) (dLenS C S s) := by
  obtain ⟨f, fd, Gd, lc, hb⟩ := c.ex
  refine ⟨peImp (pe_callB (t := tCons (tVar s) tNil) (cr_lenO lc Gd hr hgd hb) hg hm hv (pa_cons ho pa_nil hs) (by decide) (by decide) hs hpl) fun σ H Q ⟨G, ρ, F, Q', R, q, c⟩ => ?_⟩
  obtain ⟨q, a, dx, us, es, ea, _⟩ := isO_of R q
  refine ⟨_, es, a, dx, us, rfl, ea, goC_of R (.cons (a := .s s) es .nil) q fun l ρ' v H' F' hq R' s' r => ?_⟩
  obtain ⟨n, rfl, hn, hq⟩ := hq
  have r : Df X.K F' v (.int n) := r
  cases r
  exact ⟨n, rfl, hn, c _ _ _ _ _ hq R' s' (.int _)⟩
end
end DL
namespace DL
open PySem L2 PyProof.Rows StX
section
variable {G : Gm} {X : Cx} {K : PySem.W.Frag} {F F' H H' : Hp} {ρ : En} {σ : L2.St} {o e e2 i : Expr} {es : List Expr} {pos p2 apos : Pos} {ta ti tv : TD} {tt : TAd} {tf : TF} {oa : Op1} {v : V} {x : PD} {C : Addr} {m : Str} {k s j : Nat} {ps : List Str} {u : Xd → En → Prop}
end
end DL
namespace DL
open PySem L2 PyProof.Rows StX
section
variable {G : Gm} {X : Cx} {K : PySem.W.Frag} {F F' H H' : Hp} {ρ : En} {σ : L2.St} {o e e2 o2 ei : Expr} {es : List Expr} {pos p2 apos : Pos} {ta ti tv : TD} {tt : TAd} {tf : TF} {oa : Op1} {v : V} {x : PD} {C : Addr} {nm : Str} {k s j : Nat}
theorem Rel.writeG [Pn] {i : Nat} {l mm : Lc} {b : Addr} {xs ys : List PD} {vs' : List V} (R : Rel K G ρ F σ H) (e : ρ[i]? = some (some l)) (hm : (b, xs) ∈ l.fp) (ho : l.own = true) (hmo : mm.own = true) (ht : mm.tag = l.tag) (okk : ∀ oo, HoOk K F l oo → HoOk K F mm oo)
    (cases_ : ∀ {c : Addr} {zs : List PD}, (c, zs) ∈ mm.fp → (c = b ∧ zs = ys) ∨ (c ≠ b ∧ (c, zs) ∈ l.fp)) (d : DfA K F vs' ys) : Rel K G (ρ.set i (some mm)) F σ (upd H b (.lst vs')) := by
  obtain ⟨⟨nf, ow, vs, eb, dv⟩, w⟩ := R.ns i _ b xs e hm
  obtain ⟨a, es, nfa, owa, oo, eo, ok⟩ := R.at_ e ho
  have ok2 := okk oo ok
  have old : ∀ {j : Nat} {m : Lc}, (ρ.set i (some mm))[j]? = some (some m) → (j = i ∧ m = mm) ∨ (j ≠ i ∧ ρ[j]? = some (some m)) := fun {j m} q => by
    rcases set_get q with ⟨z, _, w⟩ | z
    · cases w; exact .inl ⟨z, rfl⟩
    · exact .inr z
  have own : ∀ {j : Nat} {m : Lc}, (ρ.set i (some mm))[j]? = some (some m) → m.own = true → ∃ m0, ρ[j]? = some (some m0) ∧ m0.own = true := fun {j m} q hm => by
    rcases old q with ⟨rfl, rfl⟩ | ⟨_, q⟩
    · exact ⟨_, e, ho⟩
    · exact ⟨m, q, hm⟩
  refine ⟨fun c u q => ?_, R.ff, fun c u q hc => ?_, R.nw, fun c hc => ⟨?_, (R.ih c hc).2⟩, by rw [List.length_set]; exact R.len, fun j m q => ?_, fun j k m n u q1 q2 h1 h2 q3 q4 => ?_, R.ok, fun j m c zs q hc => ?_⟩
  · rw [upd_ne (ne_of_none q nf)]; exact R.fh _ _ q
  · have : c ≠ b := by
      rintro rfl
      rcases ow with ow | ⟨_, _, _, ow⟩
      · rw [q] at ow; cases ow
      · exact hc ow
    rw [upd_ne this]; exact R.fr c u q hc
  · by_cases hcb : c = b
    · subst hcb; rw [upd_same]; simp
    · rw [upd_ne hcb]; exact (R.ih c hc).1
  · rcases old q with ⟨rfl, rfl⟩ | ⟨hj, q⟩
    · have hab : a ≠ b := fun z => (w j _ e).1 ho (by rw [es, z])
      rw [own_slot hmo]
      exact ⟨a, es, nfa, by rw [ht]; exact owa, oo, by rw [upd_ne hab]; exact eo, ok2⟩
    · have z := R.sl j m q
      cases hm : m.own with
      | true =>
        rw [own_slot hm] at z ⊢
        obtain ⟨c, e1, h1, h2, u, h3, h4⟩ := z
        have hc : c ≠ b := fun z => (w j m q).1 hm (by rw [e1, z])
        exact ⟨c, e1, h1, h2, u, by rw [upd_ne hc]; exact h3, h4⟩
      | false =>
        rcases not_own hm with ⟨x, rfl⟩ | ⟨v, rfl⟩
        · exact z
        · exact z
  · obtain ⟨m0, p1, p2⟩ := own q1 h1
    obtain ⟨n0, p3, p4⟩ := own q2 h2
    exact R.ds j k m0 n0 u p1 p3 p2 p4 q3 q4
  · rcases old q with ⟨rfl, rfl⟩ | ⟨hj, q⟩
    · rcases cases_ hc with ⟨rfl, rfl⟩ | ⟨hcb, hc⟩
      · refine ⟨⟨nf, by rw [ht]; exact ow, vs', upd_same, d⟩, fun k n q2 => ?_⟩
        rcases old q2 with ⟨rfl, rfl⟩ | ⟨hk, q2⟩
        · exact ⟨fun _ => (w k _ e).1 ho, fun _ _ => rfl⟩
        · exact w k n q2
      · obtain ⟨⟨z1, z2, us, z3, z4⟩, w2⟩ := R.ns j _ c zs e hc
        refine ⟨⟨z1, by rw [ht]; exact z2, us, by rw [upd_ne hcb]; exact z3, z4⟩, fun k n q2 => ?_⟩
        rcases old q2 with ⟨rfl, rfl⟩ | ⟨hk, q2⟩
        · exact ⟨fun _ => (w2 k _ e).1 ho, fun _ _ => rfl⟩
        · exact w2 k n q2
    · obtain ⟨⟨z1, z2, us, z3, z4⟩, w2⟩ := R.ns j m c zs q hc
      have hcb : c ≠ b := fun z => hj ((w j m q).2 zs (by rw [← z]; exact hc))
      refine ⟨⟨z1, z2, us, by rw [upd_ne hcb]; exact z3, z4⟩, fun k n q2 => ?_⟩
      rcases old q2 with ⟨rfl, rfl⟩ | ⟨hk, q2⟩
      · refine ⟨fun _ => (w2 k _ e).1 ho, fun ws hw => ?_⟩
        rcases cases_ hw with ⟨z, _⟩ | ⟨_, hw⟩
        · exact absurd z hcb
        · exact (w2 k _ e).2 ws hw
      · exact w2 k n q2
theorem Rel.shrink [Pn] {i : Nat} {l m : Lc} {a : Addr} {oo : HO} (R : Rel K G ρ F σ H) (e : ρ[i]? = some (some l)) (ho : l.own = true) (es : σ[i]? = some (some (.ref a))) (ok : HoOk K F m oo) (ht : m.tag = l.tag)
    (hfp : ∀ c zs, (c, zs) ∈ m.fp → (c, zs) ∈ l.fp) : Rel K G (ρ.set i (some m)) F σ (upd H a oo) := by
  obtain ⟨a', es', nf, ow, ob, eo, _⟩ := R.at_ e ho
  rw [es] at es'
  have : a = a' := by simpa using es'
  subst this
  have ne : ∀ (j : Nat) (n : Lc), ρ[j]? = some (some n) → n.own = true → j ≠ i → σ[j]? ≠ some (some (.ref a)) := fun j n q hn hj z => hj (R.ds j i n l _ q e hn ho z es)
  have hma := ok.own
  have nna := R.noN_at e ho es
  have own : ∀ {j : Nat} {n : Lc}, (ρ.set i (some m))[j]? = some (some n) → n.own = true → ∃ n0, ρ[j]? = some (some n0) ∧ n0.own = true := fun {j n} q hn => by
    rcases set_get q with ⟨rfl, _, z⟩ | ⟨_, q⟩
    · exact ⟨l, e, ho⟩
    · exact ⟨n, q, hn⟩
  refine ⟨fun c u q => ?_, R.ff, fun c u q hc => ?_, R.nw, fun c hc => ⟨?_, (R.ih c hc).2⟩, by rw [List.length_set]; exact R.len, fun j n q => ?_, fun j k n r u q1 q2 h1 h2 q3 q4 => ?_, R.ok, fun j n c zs q hc => ?_⟩
  · rw [upd_ne (ne_of_none q nf)]; exact R.fh _ _ q
  · have : c ≠ a := by
      rintro rfl
      cases ht' : l.tag with
      | none => rw [ht'] at ow; have ow : G.H0 c = none := ow; rw [q] at ow; cases ow
      | some k => rw [ht'] at ow; exact hc (List.mem_of_getElem? ow)
    rw [upd_ne this]; exact R.fr c u q hc
  · by_cases hca : c = a
    · subst hca; rw [upd_same]; simp
    · rw [upd_ne hca]; exact (R.ih c hc).1
  · rcases set_get q with ⟨rfl, _, z⟩ | ⟨hj, q⟩
    · cases z
      rw [own_slot hma]
      exact ⟨a, es, nf, by rw [ht]; exact ow, oo, upd_same, ok⟩
    · have z := R.sl j n q
      cases hn : n.own with
      | true =>
        rw [own_slot hn] at z ⊢
        obtain ⟨c, e1, h1, h2, u, h3, h4⟩ := z
        have hc : c ≠ a := fun w => ne j n q hn hj (by rw [e1, w])
        exact ⟨c, e1, h1, h2, u, by rw [upd_ne hc]; exact h3, h4⟩
      | false =>
        rcases not_own hn with ⟨x, rfl⟩ | ⟨v, rfl⟩
        · exact z
        · exact z
  · obtain ⟨n0, p1, p2⟩ := own q1 h1
    obtain ⟨r0, p3, p4⟩ := own q2 h2
    exact R.ds j k n0 r0 u p1 p3 p2 p4 q3 q4
  · rcases set_get q with ⟨rfl, hl, z⟩ | ⟨hj, qo⟩
    · cases z
      · have z := hfp c zs hc
        obtain ⟨⟨z1, z2, us, z3, z4⟩, w⟩ := R.ns j l c zs e z
        have hca : c ≠ a := fun q' => nna j l zs e (by rw [← q']; exact z)
        refine ⟨⟨z1, by rw [ht]; exact z2, us, by rw [upd_ne hca]; exact z3, z4⟩, fun k n q2 => ?_⟩
        rcases set_get q2 with ⟨rfl, _, z'⟩ | ⟨hk, q2⟩
        · cases z'; exact ⟨fun _ => (w k l e).1 ho, fun _ _ => rfl⟩
        · exact w k n q2
    · obtain ⟨⟨z1, z2, us, z3, z4⟩, w⟩ := R.ns j n c zs qo hc
      have hca : c ≠ a := fun q' => nna j n zs qo (by rw [← q']; exact hc)
      refine ⟨⟨z1, z2, us, by rw [upd_ne hca]; exact z3, z4⟩, fun k r q2 => ?_⟩
      rcases set_get q2 with ⟨rfl, _, z⟩ | ⟨hk, q2⟩
      · cases z
        refine ⟨fun _ => (w k l e).1 ho, fun ws hw => ?_⟩
        exact (w k l e).2 ws (hfp c ws hw)
      · exact w k r q2
def fLn0 : TF := fun ρ Q => Q (.ln none []) ρ
theorem LF.ln0 [Pn] (h : LF X e (fLst aNil)) : LF X e fLn0 := ⟨peImp h.p fun σ H Q ⟨G, ρ, F, Q', R, q, c⟩ => ⟨G, ρ, F, fun l ρ' => l = .ls none [] ∧ Q' (.ln none []) ρ', R, ⟨rfl, q⟩, fun l ρ' v H' F' hq R' s r => by
  obtain ⟨rfl, hq⟩ := hq
  obtain ⟨a, ev, ht, ⟨nf, ow, oo, eo, ok⟩, fr⟩ := r
  refine c _ _ _ _ _ hq R' s ⟨a, ev, ht, ⟨nf, ow, oo, eo, ?_⟩, ⟨fr.hf, fr.hn, fun b xs z => by cases z⟩⟩
  cases oo <;> first | exact False.elim ok | skip
  cases ok
  exact ⟨rfl, List.nodup_nil⟩⟩⟩
theorem Rel.ln_at [Pn] {s : Nat} {p : Option Nat} {xs : List (Addr × List PD)} (R : Rel K G ρ F σ H) (er : ρ[s]? = some (some (.ln p xs))) : ∃ a, σ[s]? = some (some (.ref a)) ∧ H a = some (.lst (xs.map fun x => V.ref x.1)) ∧ (xs.map (·.1)).Nodup ∧ ∀ b ys, (b, ys) ∈ xs → a ≠ b ∧ ∃ vs, H b = some (.lst vs) ∧ DfA K F vs ys := by
  obtain ⟨a, es, nf, ow, o, eo, ok⟩ := R.at_ er rfl
  cases o <;> first | exact False.elim ok | skip
  obtain ⟨rfl, nd⟩ := ok
  refine ⟨a, es, eo, nd, fun b ys hb => ?_⟩
  obtain ⟨⟨_, _, vs, e1, d1⟩, w⟩ := R.ns s _ b ys er hb
  exact ⟨fun z => (w s _ er).1 rfl (by rw [es, z]), vs, e1, d1⟩
def lnD (xs : List (Addr × List PD)) : PD := .list (xs.map fun x => .list x.2)
theorem Rel.ln_df [Pn] {s : Nat} {p : Option Nat} {xs : List (Addr × List PD)} (R : Rel K G ρ F σ H) (er : ρ[s]? = some (some (.ln p xs))) : ∃ a, σ[s]? = some (some (.ref a)) ∧ H a = some (.lst (xs.map fun x => V.ref x.1)) ∧ Df K H (.ref a) (lnD xs) := by
  obtain ⟨a, es, ea, _, inn⟩ := R.ln_at er
  refine ⟨a, es, ea, .lst (Rd.of ea) ?_⟩
  have : ∀ ys : List (Addr × List PD), (∀ b zs, (b, zs) ∈ ys → (b, zs) ∈ xs) → DfA K H (ys.map fun x => V.ref x.1) (ys.map fun x => PyData.list x.2) := fun ys => by
    induction ys with
    | nil => intro _; exact .nil
    | cons y ys ih =>
      intro h
      obtain ⟨b, zs⟩ := y
      obtain ⟨_, vs, e1, d1⟩ := inn b zs (h b zs List.mem_cons_self)
      exact .cons (.lst (Rd.of e1) (d1.mono R.fh)) (ih fun b' zs' hm => h b' zs' (List.mem_cons_of_mem _ hm))
  exact this xs fun _ _ h => h
theorem map_last {α β : Type} (f : α → β) {xs : List α} {y : α} (h : xs.getLast? = some y) : atI (xs.map f) (-1) = some (f y) := by
  obtain ⟨r, rfl⟩ : ∃ r, xs = r ++ [y] := by
    rcases List.eq_nil_or_concat xs with rfl | ⟨r, z, rfl⟩
    · cases h
    · rw [List.concat_eq_append] at h ⊢
      simp at h
      exact ⟨r, by rw [h]⟩
  rw [List.map_append]
  have : ixN (r.map f ++ [f y]).length (-1) = some (r.map f).length := by
    unfold ixN
    rw [List.length_append]
    show (if (0 : Int) ≤ -1 then _ else _) = _
    rw [if_neg (by decide)]
    simp only [List.length_cons, List.length_nil]
    split
    · congr 1; omega
    · omega
  unfold atI
  rw [show r.map f ++ List.map f [y] = r.map f ++ [f y] from rfl, this]
  simp
theorem last_split {α : Type} {xs : List α} {y : α} (h : xs.getLast? = some y) : xs = xs.dropLast ++ [y] := by
  rcases List.eq_nil_or_concat xs with rfl | ⟨r, z, rfl⟩
  · cases h
  · rw [List.concat_eq_append] at h ⊢
    simp at h
    rw [List.dropLast_concat, h]
theorem Rel.ln_pop [Pn] {p : Option Nat} {xs : List (Addr × List PD)} {a : Addr} (R : Rel K G ρ F σ H) (er : ρ[s]? = some (some (.ln p xs))) (es : σ[s]? = some (some (.ref a))) : Rel K G (ρ.set s (some (.ln p xs.dropLast))) F σ (upd H a (.lst (xs.map fun x => V.ref x.1).dropLast)) := by
  obtain ⟨a2, es2, _, nd, _⟩ := R.ln_at er
  refine R.shrink er rfl es (m := .ln p xs.dropLast) (oo := .lst _) ⟨?_, ?_⟩ rfl fun c zs hc => List.dropLast_subset _ hc
  · rw [List.map_dropLast]
  · rw [List.map_dropLast]
    exact nd.sublist (List.dropLast_sublist _)
def sPop2Ln (s : Nat) (is : List Nat) : TSt := fun D ρ => match ρ[s]? with
  | some (some (.ln p xs)) => ∃ b ys, xs.getLast? = some (b, ys) ∧ ys.length = is.length ∧ D.nx (setAll (ρ.set s (some (.ln p xs.dropLast))) is ys)
  | _ => False
theorem last_get {α β : Type} (f : α → β) {xs : List α} {y : α} (h : xs.getLast? = some y) : (xs.map f)[(xs.map f).length - 1]? = some (f y) := by
  rw [List.length_map, List.getElem?_map, ← List.getLast?_eq_getElem?, h]; rfl
theorem LS.pop2Ln [Pn] {tg : Expr} {is : List Nat} (hg : PG X tg (gUnl X.K is.length (gNames is))) (h : PE X e (tBM0 X.K "list" rPop (tVar s))) (hs : swapsWithSole [tg] e pos.line X.env = pure false := by rfl) (hw : swappedStores [tg] e X.env = pure none := by rfl)
    (h1 : (assignEach [tg] X.env).map (·.2) = [assign tg X.env] := by rfl) : LS X (.Assign [tg] e pos) (sPop2Ln s is) := ⟨psImp (ps_asg h hg hs hw h1) fun D σ H ⟨G, ρ, F, D', R, q, k⟩ => by
  unfold sPop2Ln at q
  split at q
  · rename_i p xs er
    obtain ⟨b, ys, hl, hn, q⟩ := q
    obtain ⟨a, es, ea, nd, inn⟩ := R.ln_at er
    obtain ⟨hab, vs, e1, d1⟩ := inn b ys (List.mem_of_getLast? hl)
    have R2 := R.ln_pop er es
    refine ⟨_, es, .inl ⟨rfl, _, SqL.of ea⟩, a, _, .ref b, rfl, rfl, ea, last_get (fun x => V.ref x.1) hl, b, vs, rfl, SqL.of (by rw [upd_ne (Ne.symm hab)]; exact e1), by rw [d1.length]; exact hn, names_go (fun i hi => hi) R2 d1 hn fun σ2 R3 _ => k.nx _ _ _ _ q R3 (Same.refl _)⟩
  · exact False.elim q⟩
def sPopLn (s : Nat) : TSt := fun D ρ => match ρ[s]? with
  | some (some (.ln p xs)) => xs ≠ [] ∧ D.nx (ρ.set s (some (.ln p xs.dropLast)))
  | _ => False
theorem LS.popLn [Pn] (h : PE X e (tBM0 X.K "list" rPop (tVar s))) (hs : swapsWith e none pos.line X.env = pure false := by rfl) : LS X (.Expr e pos) (sPopLn s) := ⟨psImp (ps_expr h hs) fun D σ H ⟨G, ρ, F, D', R, q, k⟩ => by
  unfold sPopLn at q
  split at q
  · rename_i p xs er
    obtain ⟨hne, q⟩ := q
    obtain ⟨a, es, ea, nd, inn⟩ := R.ln_at er
    obtain ⟨⟨b, ys⟩, hl⟩ : ∃ y, xs.getLast? = some y := by
      cases e : xs.getLast? with
      | none => exact absurd (List.getLast?_eq_none_iff.mp e) hne
      | some y => exact ⟨y, rfl⟩
    exact ⟨_, es, .inl ⟨rfl, _, SqL.of ea⟩, a, _, .ref b, rfl, rfl, ea, last_get (fun x => V.ref x.1) hl, k.nx _ _ _ _ q (R.ln_pop er es) (Same.refl _)⟩
  · exact False.elim q⟩
def sAppLn (s : Nat) : TSt := fun D ρ => match ρ[s]? with
  | some (some (.ln p xs)) => xs.length < sizeLine ∧ ∀ b, D.nx (ρ.set s (some (.ln p (xs ++ [(b, [])]))))
  | _ => False
theorem LS.appLn [Pn] (h : PE X e (tBM X.K "list" rAppend (tVar s) (tCons (liftF X.K (fLst aNil)) tNil))) (hs : swapsWith e none pos.line X.env = pure false := by rfl) : LS X (.Expr e pos) (sAppLn s) := ⟨psImp (ps_expr h hs) fun D σ H ⟨G, ρ, F, D', R, q, k⟩ => by
  unfold sAppLn at q
  split at q
  · rename_i p xs er
    obtain ⟨a, es, ea, _⟩ := R.ln_at er
    refine ⟨_, es, .inl ⟨rfl, _, SqL.of ea⟩, G, ρ, F, fun l ρ' => l = .ls none [] ∧ ρ' = ρ, R, ⟨rfl, rfl⟩, fun l ρ' v H' F' hq R' s' r => ?_⟩
    obtain ⟨rfl, rfl⟩ := hq
    obtain ⟨a2, es2, ea2, nd, _⟩ := R'.ln_at er
    rw [es] at es2
    have : a = a2 := by simpa using es2
    subst this
    have r0 := r
    obtain ⟨b, rfl, _, _, fr⟩ := r
    refine ⟨a, _, .ref b, rfl, rfl, ea2, by rw [List.length_map]; exact q.1, k.nx _ _ _ _ (q.2 b) ?_ s'⟩
    refine R'.putNs er rfl es (m := .ln p (xs ++ [(b, [])])) (oo := .lst _) ⟨by rw [List.map_append]; rfl, ?_⟩ rfl r0 fun c zs hc => ?_
    · rw [List.map_append]
      refine List.nodup_append.mpr ⟨nd, by simp, fun x hx y hy => ?_⟩
      obtain ⟨⟨c, zs⟩, hc, rfl⟩ := List.mem_map.mp hx
      have : y = b := by simpa using hy
      rw [this]
      intro z
      have z : c = b := z
      subst z
      exact fr.hn s _ zs er hc
    · rcases List.mem_append.mp hc with hc | hc
      · exact .inr hc
      · exact .inl (List.mem_singleton.mp hc)
  · exact False.elim q⟩
def sExtLn (s : Nat) (ti : TD) (oa : Op1) : TSt := fun D ρ => match ρ[s]? with
  | some (some (.ln p xs)) => ti ρ fun i ρ1 => i = .int (-1) ∧ ρ1 = ρ ∧ ∃ b zs, xs.getLast? = some (b, zs) ∧ oa.run ρ fun a ρ2 => ρ2[s]? = some (some (.ln p xs)) ∧ res1 ρ2 a fun y => (match y with
    | .list ys => zs.length + ys.length ≤ sizeLine ∧ D.nx (ρ2.set s (some (.ln p (xs.dropLast ++ [(b, zs ++ ys)]))))
    | _ => False)
  | _ => False
theorem LS.extLn [Pn] {t : TE} (ht : t = tOp (rIx X.K) (tVar s) (liftD X.K ti)) (h : PE X e (tBM X.K "list" rExtD t (tCons (liftO X.K oa) tNil))) (hs : swapsWith e none pos.line X.env = pure false := by rfl) : LS X (.Expr e pos) (sExtLn s ti oa) := ⟨psImp (ps_expr h hs) fun D σ H ⟨G, ρ, F, D', R, q, k⟩ => by
  subst ht
  unfold sExtLn at q
  split at q
  · rename_i p xs er
    obtain ⟨a, es, _⟩ := R.ln_at er
    refine ⟨_, es, G, ρ, F, _, R, q, fun i ρ1 v H1 F1 h1 R1 s1 d => ?_⟩
    obtain ⟨rfl, rfl, b, zs, hl, q1⟩ := h1
    obtain rfl : v = V.int (-1) := by cases d; rfl
    obtain ⟨a2, es2, ea2, _, inn⟩ := R1.ln_at er
    rw [es] at es2
    have : a = a2 := by simpa using es2
    subst this
    have hm : (b, zs) ∈ xs := List.mem_of_getLast? hl
    obtain ⟨_, us, e1, d1⟩ := inn b zs hm
    refine .inl ⟨a, _, -1, .ref b, rfl, rfl, SqL.of ea2, map_last (fun x => V.ref x.1) hl, .inl ⟨rfl, _, SqL.of e1⟩, G, ρ1, F1, _, R1, q1, fun av ρ2 v H2 F2 h2 R2 s2 dav => ?_⟩
    obtain ⟨er2, h2⟩ := h2
    obtain ⟨y, h3, dy⟩ := res1_dr R2 dav h2
    split at h3
    · rename_i ys
      obtain ⟨a3, es3, ea3, nd3, inn3⟩ := R2.ln_at er2
      obtain ⟨_, us3, e3, d3⟩ := inn3 b zs hm
      obtain ⟨c, ws, rfl, ec, dw⟩ := dy.lst R2.fh
      refine ⟨b, c, us3, ws, rfl, rfl, e3, ec, by rw [d3.length, dw.length]; exact h3.1, k.nx _ _ _ _ h3.2 ?_ (s1.trans s2)⟩
      have ex := last_split hl
      have mem : ∀ {c : Addr} {ws : List PD}, (c, ws) ∈ xs.dropLast → (c, ws) ∈ xs ∧ c ≠ b := fun {c ws} hc => by
        refine ⟨List.dropLast_subset _ hc, fun z => ?_⟩
        subst z
        rw [ex, List.map_append] at nd3
        exact (List.nodup_append.mp nd3).2.2 c (List.mem_map.mpr ⟨_, hc, rfl⟩) c (by simp) rfl
      refine R2.writeG er2 (l := .ln p xs) (mm := .ln p (xs.dropLast ++ [(b, zs ++ ys)])) (xs := zs) (ys := zs ++ ys) hm rfl rfl rfl (fun oo ok => ?_) (fun {c ws} hc => ?_) (d3.append dw)
      · cases oo <;> first | exact False.elim ok | skip
        obtain ⟨h1, h2⟩ := ok
        refine ⟨?_, ?_⟩
        · rw [h1]
          conv => lhs; rw [ex]
          rw [List.map_append, List.map_append]; rfl
        · rw [ex, List.map_append] at h2
          rw [List.map_append]
          exact h2
      · rcases List.mem_append.mp hc with hc | hc
        · obtain ⟨g1, g2⟩ := mem hc
          exact .inr ⟨g2, g1⟩
        · have := List.mem_singleton.mp hc
          cases this
          exact .inl ⟨rfl, rfl⟩
    · exact False.elim h3
  · exact False.elim q⟩
end
end DL
namespace DL
open PySem L2 PyProof.Rows StX
section
variable {X : Cx} {K : PySem.W.Frag} {F H : Hp}
def cNiU : F2 := fun x y k => match y with
  | .str _ => cInS true x y k
  | _ => cIn true x y k
theorem op_niU : OpR X (compareOp .NotIn) (fun x y H Q => (∃ a b, x = .str a ∧ y = .str b ∧ Q (.bl (!(!(Builtin.Str.occurrences b a 0 b.length 1).isEmpty))) H) ∨ rIn X.K true x y H Q) := op_notin_str.or op_notIn_seq
theorem ok_niU : Op2Ok K cNiU (fun x y H Q => (∃ a b, x = .str a ∧ y = .str b ∧ Q (.bl (!(!(Builtin.Str.occurrences b a 0 b.length 1).isEmpty))) H) ∨ rIn K true x y H Q) := fun F H vx vy x y k Q s dx dy h c => by
  unfold cNiU at h
  split at h
  · exact .inl (ok_notInS F H vx vy x _ k Q s dx dy h c)
  · exact .inr (ok_in true F H vx vy x y k Q s dx dy h c)
def KeysAre : List DictEntry → List Str → Prop
  | [], [] => True
  | e :: r, k :: ks => (∃ t, e.key = .str k t) ∧ KeysAre r ks
  | _, _ => False
structure KdL (K : PySem.W.Frag) (w : World) (mg : Str → Option Value) (n : Str) (ks : List Str) : Prop where
  ex : ∃ d es c, mg n = some (.ref d) ∧ K.lookup d = some ⟨.type "dict", none, .dict es c, #[]⟩ ∧ PySem.W.KeysLit w.params es.toList ∧ (d == sysModules) = false ∧ KeysAre es.toList ks
  nd : ks.Nodup
  sm : ks.length ≤ 1000
theorem KeysAre.pairs {prog : Program} {w : World} : ∀ {es : List DictEntry} {ks : List Str}, KeysAre es ks → ∃ kvs : List (Str × Value), kvs.map (·.1) = ks ∧ PySem.Pairs (PySem.strKind prog w) es kvs
  | [], [], _ => ⟨[], rfl, .nil⟩
  | e :: r, k :: ks, ⟨⟨t, h1⟩, h2⟩ => by
    obtain ⟨kvs, e1, p⟩ := KeysAre.pairs (prog := prog) (w := w) h2
    exact ⟨(k, e.val) :: kvs, by rw [List.map_cons, e1], .cons (by rw [h1]; exact PySem.strKind_is prog w k t) rfl p⟩
  | [], _ :: _, h => by cases h
  | _ :: _, [], h => by cases h
theorem call_list_kd (hcalm : X.calm = true) : CallR X (.type "list") (fun xs H Q => ∃ (d : Addr) (es : Array DictEntry) (c : Nat) (ks : List Str), xs = [.ref d] ∧ X.K.lookup d = some ⟨.type "dict", none, .dict es c, #[]⟩ ∧ PySem.W.KeysLit X.w.params es.toList ∧ (d == sysModules) = false ∧ KeysAre es.toList ks ∧ ks.Nodup ∧ ks.length ≤ 1000 ∧
    ∀ p, H p = none → Q (.ref p) (upd H p (.lst (ks.map V.str)))) := by
  intro pins s σ H xs us Q I r q
  obtain ⟨d, es, c, ks, rfl, hl, lit, lo, ka, nd, sm, q⟩ := q
  obtain ⟨u, rfl, rx⟩ := vals1 r
  obtain rfl : u = Value.ref d := rx
  obtain ⟨kvs, ek, hp⟩ := ka.pairs (prog := X.prog) (w := X.w)
  have hk : PySem.KeysOf (PySem.strKind X.prog X.w) es := by
    obtain ⟨o, es', ep, h1, h2, h3, h4, h5⟩ := PySem.W.mapOf_K (prog := X.prog) I.kIn hl lit
    have h1' := I.kIn _ _ hl
    rw [h1'] at h1
    cases h1
    cases h3
    exact h4
  have hat : s.heap.DictAt (PySem.strKind X.prog X.w) d kvs c := ⟨_, es, I.kIn _ _ hl, ⟨rfl, rfl, rfl⟩, rfl, hk, hp, by rw [ek]; exact nd⟩
  have kl : kvs.length = ks.length := by rw [← ek, List.length_map]
  have h16 : ks.length ≤ sizeLine := Nat.le_trans sm (by rw [sizeLine_eq]; decide)
  refine PySem.W.kdl_call (PySem.W.kdl_dict (knd := PySem.strKind X.prog X.w) (kvs := kvs) (ep := c) lo) (I.ok.hd hcalm) hat (by rw [kl]; exact h16) fun h' tk acc c' hk2 hD hacc => ?_
  have hal : acc.toList.length = ks.length := by rw [Array.length_toList, hacc.1, kl]
  have hS : StrsAre acc.toList ks := strs_at hal fun j v e => by
    obtain ⟨k, x, e1, e2⟩ := hacc.2 j v (by rw [← Array.getElem?_toList]; exact e)
    have e3 : (kvs.map (·.1))[j]? = some k := by rw [List.getElem?_map, e1]; rfl
    rw [ek] at e3
    obtain ⟨t, ev⟩ := Value.isStrOf_shape (x := k) (v := v) e2
    exact ⟨k, t, e3, ev⟩
  refine ⟨.ref s.heap.objs.size, upd H s.heap.objs.size (.lst (ks.map V.str)), I.laid (t' := tk) hk2 (Nat.le_refl _)
    (show ObjOk X.prog X.w _ _ _ (.lst (ks.map V.str)) from ⟨by rw [List.length_map]; exact h16, acc.toList, c', vals_of_strs hS, by rw [Array.toArray_toList]; exact hD⟩), rfl, q _ (I.hok.fresh (Nat.le_refl _))⟩
theorem LD.lkd [Pn] {n : Str} {ks : List Str} {p p2 pos : Pos} (D : KdL X.K X.w X.mg n ks) (hc : X.calm = true) (hg : Gl X "list") (hm : X.mg "list" = none) (hgn : Gl X n)
    (he : starEach [.Name n p2] X.env = (false, eval (.Name n p2) X.env) :: starEach [] X.env := by rfl) (hpl : (backTo pos (starEach [] X.env)).any (·.1) = false := by rfl) (hd : (n == ("__debug__" : Str)) = false := by decide) :
    LD X (.Call (.Name "list" p) [.Name n p2] [] pos) (dC (.list (ks.map .str))) := by
  obtain ⟨d, es, c, h1, h2, h3, h4, h5⟩ := D.ex
  refine ⟨peImp (pe_callTy (call_list_kd hc) hg hm (by decide +kernel) (pa_cons (pe_glob (v := .ref d) hgn h1 rfl hd) pa_nil he) (by decide) (by decide) he hpl) fun σ H Q ⟨G, ρ, F, Q', R, q, k⟩ => ?_⟩
  refine ⟨d, es, c, ks, rfl, h2, h3, h4, h5, D.nd, D.sm, fun p hp => ?_⟩
  have g := Grow.frozen R.fh hp (.lst (ks.map V.str))
  refine k _ ρ _ _ _ q (R.grow g) g.ff (.lst (.inl upd_same) ?_)
  have : ∀ ks : List Str, ∀ F : Hp, DfA X.K F (ks.map V.str) (ks.map PyData.str) := fun ks F => by
    induction ks with
    | nil => exact .nil
    | cons k ks ih => exact .cons (.str k) ih
  exact this ks _
end
end DL
namespace DL
open PySem L2 PyProof.Rows PySem.Builtin PySem.Builtin.Str
section
variable {prog : Program} {w : World} {A : Around} {E : Value → Shared → Prop} {s : Shared} {a : Int} {t : Tok}
theorem strOfW {Q : Value → Shared → Prop} (hn : s.heap.NoDigits) (hl : a.natAbs < 10 ^ 4300) (h : Q (.str (toString a) s.toks) { s with toks := s.toks + 1 }) : wpAny (model prog w) A (PySem.Builtin.Str.strOf (.int a t)) Q E s := by
  unfold PySem.Builtin.Str.strOf
  rw [show isExactStr (.int a t) = false from rfl]
  try (have hv : [Value.int a t].any Value.onHeap = false := rfl; simp only [cRoomFor, hv, Bool.false_eq_true, if_false, pure_bind])
  refine wpAny_bind (m := callSpecial? (.int a t) (Str.ofString "__str__")) (wpAny_callSpecial?_slot (name := Str.ofString "__str__") (typeIs_int s a t) F.slot_int_str ?_)
  refine wpAny_call_entry F.slot_int_str (typeIs_int s a t) entry_object_str ?_ (args_object_str _)
  unfold Builtin.«object.__str__»
  refine wpAny_bind (m := slotArgs "__str__" 0 _) (wpAny_pure ?_)
  try (have hv : [Value.int a t].any Value.onHeap = false := rfl; simp only [cRoomFor, hv, Bool.false_eq_true, if_false, pure_bind])
  refine wpAny_bind (m := callSpecialIfBound? (.int a t) (Str.ofString "__repr__")) (wpAny_callSpecialIfBound?_slot (name := Str.ofString "__repr__") (typeIs_int s a t) F.slot_int_repr
    (intCallW hn hl ?_))
  exact wpAny_pure ⟨_, rfl, wpAny_pure h⟩
theorem str_of_intW {Q : Value → Shared → Prop} (hn : s.heap.NoDigits) (hl : a.natAbs < 10 ^ 4300) (h : Q (.str (toString a) s.toks) { s with toks := s.toks + 1 }) : wpAny (model prog w) A (call (.type "str") [.int a t]) Q E s :=
  callType_new F.called_str (by decide) (F.typeCall_str_1 _) (F.newCall_str_1 _) (fun obj => F.args_object_init_2 obj _) F.entry_str_new
    (meets_str_new (S := fun A R s => s.heap.NoDigits ∧ a.natAbs < 10 ^ 4300 ∧ R (.ok (.ret (.str (toString a) s.toks))) { s with toks := s.toks + 1 })
      fun _ _ _ _ _ hq => strOfW hq.1 hq.2.1 hq.2.2)
    ⟨hn, hl, typeIs_str _ _ _, h⟩
end
section
variable {X : Cx} {K : PySem.W.Frag}
def bStrW : FN
  | [.int i], k => i.natAbs < 10 ^ 4300 ∧ k (.str (toString i))
  | [.str a], k => k (.str a)
  | _, _ => False
def rStrW : List V → Hp → VK → Prop := fun xs H Q => (∃ i, xs = [.int i] ∧ i.natAbs < 10 ^ 4300 ∧ Q (.str (toString i)) H) ∨ ∃ a, xs = [.str a] ∧ Q (.str a) H
theorem call_strW (hnd : X.base.NoDigits) : CallR X (.type "str") rStrW := by
  intro pins s σ H xs us Q I r h
  rcases h with ⟨i, rfl, hz, q⟩ | h
  · obtain ⟨u, rfl, t, rfl⟩ := vals1 r
    exact str_of_intW (hnd.keeps I.bk) hz ⟨.str _, H, I.tok _, ⟨_, rfl⟩, q⟩
  · obtain ⟨a, rfl, q⟩ := h
    obtain ⟨w1, rfl, tk1, rfl⟩ := vals1 r
    exact PySem.P.str_of_str ⟨.str a, H, I, ⟨tk1, rfl⟩, q⟩
theorem ok_strW : BiOk K bStrW rStrW := by
  intro F H vs xs k Q s d h c
  unfold bStrW at h
  split at h
  · obtain ⟨v, rfl, d1⟩ := d.one
    rw [d1.int]
    exact .inl ⟨_, rfl, h.1, c _ _ F H h.2 (Grow.refl s) (.str _)⟩
  · obtain ⟨v, rfl, d1⟩ := d.one
    rw [d1.str]
    exact .inr ⟨_, rfl, c _ _ F H h (Grow.refl s) (.str _)⟩
  · exact False.elim h
end
end DL
namespace DL
open PySem L2 PyProof.Rows PySem.Builtin PySem.Builtin.Str
theorem fold_list (a : Array Nat) : ∀ (k : Nat) (b : Array Nat), ((List.replicate k a).foldl (· ++ ·) b).toList = b.toList ++ (List.replicate k a.toList).flatten
  | 0, b => by simp
  | k + 1, b => by
    rw [List.replicate_succ, List.foldl_cons, fold_list a k, Array.toList_append, List.replicate_succ, List.flatten_cons, List.append_assoc]
section
variable {X : Cx} {K : PySem.W.Frag}
end
end DL
namespace DL
open PySem L2 PyProof.Rows ZB
theorem hint_str {prog : Program} {w : World} {A : Around} {E : Value → Shared → Prop} {s : Shared} {x : Str} {t : Tok} {Q : Bool → Shared → Prop} (h : Q false s) : wpAny (model prog w) A (Builtin.List.listLengthHint (.str x t)) Q E s := by
  unfold Builtin.List.listLengthHint
  refine wpAny_bind (wpAny_specialOf (T := "str") (v := .str x t) rfl F.str_len ?_)
  wp_delta
  refine wpAny_bind (wpAny_isInstance (T := "str") (v := .str x t) (b := true) rfl (by rw [isSubtype_type]; kernel_rfl) ?_)
  show wpAny _ A (typeOf (Value.str x t) >>= _) _ _ _
  refine wpAny_bind (wpAny_typeOf (T := "str") (v := .str x t) rfl ?_)
  exact wpAny_pure h
section
variable {prog : Program} {w : World} {A : Around} {E : Value → Shared → Prop} {s : Shared}
theorem extend_str {R : Result → Shared → Prop} (hh : A.handled = none) (x : Str) (t : Tok) (S : Addr) (res : Value) (c₀ : Nat) (hS : s.heap.get? S = some { cls := .type "list", data := .seq #[] c₀ })
    (hR : ∀ h' tk acc' c', (∀ b o, b ≠ S → s.heap.get? b = some o → h'.get? b = some o) → h'.get? S = some { cls := .type "list", dict := none, data := .seq acc' c', slots := #[] } →
      ItemsOf (SignAt x) acc' x.cps.size → R (.ok (.ret res)) { s with heap := h', toks := tk }) (hn : x.cps.size ≤ sizeLine) :
    wpAny (model prog w) A.in1 (Builtin.List.listExtendWith (.ref S) (.str x t) res)
      (fun fin s' => match fin with | .done f => R (.ok f) s' | .again c' => c'.quiet = true ∧ codeAny (model prog w) A c' R s') (fun e s' => R (.error e) s') s := by
  have hSI : S ≠ s.heap.objs.size := Nat.ne_of_lt (Heap.lt_size hS)
  have hSf : S ∉ [s.heap.objs.size] := fun hm => hSI (List.mem_singleton.mp hm)
  unfold Builtin.List.listExtendWith
  refine wpAny_bind (wpAny_typeOf (T := "str") (v := .str x t) rfl ?_)
  have h1 : Builtin.List.listSameRef (.ref S) (.str x t) = false := rfl
  have h2 : (Value.type "str" == Value.type "list") = false := by decide
  have h3 : (Value.type "str" == Value.type "tuple") = false := by decide
  simp only [h1, h2, h3, Bool.or_false, Bool.false_eq_true, if_false]
  refine wpAny_bind (wpAny_pyIter_str fun o St W hst => ?_)
  refine wpAny_bind (wpAny_holding (hint_str ?_))
  rw [if_neg (by first | decide | decide +kernel)]
  refine wpAny_pure ⟨plainId_quiet PySem.F.plain_extend_loop _, codeAny_extend_loopS (W A.in1 hh).toS hn _ hSf _ x.cps.size 0 _ _ _ rfl (Nat.zero_le _) hst (Heap.get?_push_of_some _ hS) (ItemsOf.nil _) fun s' acc' c' hm hS' hacc => ?_⟩
  rw [Moved.eq_with hm]
  refine hR s'.heap s'.toks acc' c' (fun b ob hb e => hm.heap b ob (fun hmem => ?_) (Heap.get?_push_of_some _ e)) hS' hacc
  rcases List.mem_cons.mp hmem with e' | hmem
  · exact hb e'
  · exact absurd (Heap.lt_size e) (by rw [List.mem_singleton.mp hmem]; exact Nat.lt_irrefl _)
theorem list_init_str {R : Result → Shared → Prop} (hh : A.handled = none) (x : Str) (t : Tok) (S : Addr) (hS : s.heap.get? S = some { cls := .type "list", data := .seq #[] })
    (hR : ∀ h' tk acc' c', (∀ b o, b ≠ S → s.heap.get? b = some o → h'.get? b = some o) → h'.get? S = some { cls := .type "list", dict := none, data := .seq acc' c', slots := #[] } →
      ItemsOf (SignAt x) acc' x.cps.size → R (.ok (.ret .none)) { s with heap := h', toks := tk }) (hn : x.cps.size ≤ sizeLine) :
    wpAny (model prog w) A.in1 (Builtin.«list.__init__» ⟨[.ref S, .str x t], []⟩)
      (fun fin s' => match fin with | .done f => R (.ok f) s' | .again c' => c'.quiet = true ∧ codeAny (model prog w) A c' R s') (fun e s' => R (.error e) s') s := by
  show wpAny _ _ (do let old ← Builtin.List.listItems (.ref S); Builtin.List.listUpdate (.ref S) (fun _ => #[]); letGo old.toList.reverse; Builtin.List.listExtendWith (.ref S) (.str x t) .none) _ _ s
  refine wpAny_bind ?_
  unfold Builtin.List.listItems
  refine wpAny_bind (wpAny_seqItems hS rfl (wpAny_pure ?_))
  show wpAny _ _ (updateSeq S (fun _ => #[]) >>= fun _ => letGo (#[] : Array Value).toList.reverse >>= fun _ => Builtin.List.listExtendWith (.ref S) (.str x t) .none) _ _ s
  refine wpAny_bind (wpAny_updateSeq hS rfl ?_)
  have hS₂ := Heap.get?_update_self (Obj.mapSeq (fun _ => (#[] : Array Value))) hS rfl
  have oth : ∀ b o, b ≠ S → s.heap.get? b = some o → (s.heap.update S (Obj.mapSeq (fun _ => (#[] : Array Value)))).get? b = some o :=
    fun b o hb e => (Heap.get?_update_other _ _ (Ne.symm hb)).trans e
  refine wpAny_bind (wpAny_letGo ?_)
  refine extend_str hh x t S .none _ hS₂ (fun h' tk acc' c' hk hS' hacc => ?_) hn
  exact hR h' tk acc' c' (fun b o hb e => hk b o hb (oth b o hb e)) hS' hacc
theorem call_list_text {x : Str} {t : Tok} {Q : Value → Shared → Prop} (hh : A.handled = none) (hn : x.cps.size ≤ sizeLine)
    (hQ : ∀ h' tk acc' c', (∀ b o, s.heap.get? b = some o → h'.get? b = some o) →
      h'.get? s.heap.objs.size = some { cls := .type "list", dict := none, data := .seq acc' c', slots := #[] } → ItemsOf (SignAt x) acc' x.cps.size → Q (.ref s.heap.objs.size) { s with heap := h', toks := tk }) :
    wpAny (model prog w) A (call (.type "list") [.str x t]) Q E s := by
  refine callType_codes (Q₁ := fun obj s₁ => obj = .ref s.heap.objs.size ∧ s₁ = { s with heap := s.heap.push { cls := .type "list", data := .seq #[] } }) PySem.F.called_list (PySem.F.typeCall_list_1 _) PySem.F.entry_list_init
    (code_list_new _ ⟨rfl, rfl⟩) fun obj s₁ h₁ => ?_
  obtain ⟨rfl, rfl⟩ := h₁
  have hS : (s.heap.push { cls := .type "list", data := .seq #[] }).get? s.heap.objs.size = some { cls := .type "list", data := .seq #[] } := Heap.get?_push_size _ rfl
  refine ⟨⟨_, hS, rfl⟩, PySem.F.args_list_init_2 _ _, list_init_str (A := A.in1) hh x t _ hS (fun h' tk acc' c' hk hS' hacc => ?_) hn⟩
  exact ⟨rfl, hQ h' tk acc' c' (fun b o e => hk b o (Nat.ne_of_lt (Heap.lt_size e)) (Heap.get?_push_of_some _ e)) hS' hacc⟩
end
section
variable {X : Cx} {e : Expr} {es : List Expr} {oa : Op1} {tt : TAd} {p pos : Pos}
def sgs (z : Str) : List Str := z.cps.toList.map fun c => ⟨#[c]⟩
theorem call_list_str (hcalm : X.calm = true) : CallR X (.type "list") (fun xs H Q => ∃ z, xs = [.str z] ∧ z.length ≤ sizeLine ∧ ∀ q, H q = none → Q (.ref q) (upd H q (.lst ((sgs z).map V.str)))) := by
  intro pins s σ H xs us Q I r ⟨z, ex, hz, q⟩
  subst ex
  obtain ⟨u, rfl, t, rfl⟩ := vals1 r
  refine call_list_text (I.ok.hd hcalm) hz fun h' tk acc c' hk e hi => ?_
  have ln : ((sgs z).map V.str).length = z.cps.size := by unfold sgs; simp
  refine ⟨.ref s.heap.objs.size, upd H s.heap.objs.size (.lst ((sgs z).map V.str)), I.laid hk (Nat.le_refl _) ⟨by rw [ln]; exact hz, acc.toList, c', ?_, by rw [Array.toArray_toList]; exact e⟩, rfl, q _ (I.hok.fresh (Nat.le_refl _))⟩
  refine vals_of_idx _ _ (by rw [ln, Array.length_toList]; exact hi.1) fun j u hj => ?_
  obtain ⟨c, t', hc, rfl⟩ := hi.2 j u (by rw [← Array.getElem?_toList]; exact hj)
  exact ⟨.str ⟨#[c]⟩, by unfold sgs; simp [hc], ⟨_, rfl⟩⟩
def fListS (t : TAd) : TF := fun ρ Q => t ρ fun as ρ1 => resA ρ1 as fun xs => match xs with
  | [.str z] => z.length ≤ sizeLine ∧ Q (.ls none ((sgs z).map .str)) ρ1
  | _ => False
theorem LF.listS [Pn] (hc : X.calm = true) (hg : Gl X "list") (hm : X.mg "list" = none) (ha : LA X (e :: es) tt)
    (he : starEach (e :: es) X.env = (false, eval e X.env) :: starEach es X.env := by rfl) (hpl : (backTo pos (starEach es X.env)).any (·.1) = false := by rfl) :
    LF X (.Call (.Name "list" p) (e :: es) [] pos) (fListS tt) := ⟨peImp (pe_callTy (call_list_str hc) hg hm (by decide +kernel) ha.p (by decide) (by decide) he hpl) fun σ H Q ⟨G, ρ, F, Q', R, q, c⟩ => ⟨G, ρ, F, _, R, q, fun as ρ1 vs H1 F1 h1 hl R1 s1 av => by
  obtain ⟨xs, h2, d⟩ := resA_dr R1 av h1
  split at h2
  · rename_i z
    obtain ⟨v, rfl, d1⟩ := d.one
    rw [d1.str]
    refine ⟨z, rfl, h2.1, fun l hl => ?_⟩
    have dd : DfA X.K F1 ((sgs z).map V.str) ((sgs z).map PyData.str) := by
      generalize sgs z = l
      induction l with
      | nil => exact .nil
      | cons x r ih => exact .cons (.str _) ih
    obtain ⟨R2, k⟩ := fresh_ok (l := .ls none _) (o := .lst _) R1 hl dd rfl
    exact c _ _ _ _ _ h2.2 R2 s1 k
  · exact False.elim h2⟩⟩
end
end DL
namespace DL
open PySem L2 PyProof.Rows PySem.NumText PySem.W PySem.Calls
theorem maxDigits {M : Model} {A : Around} {E : Value → Shared → Prop} {s : Shared} {Q : Nat → Shared → Prop} (hn : s.heap.NoDigits) (h : Q 4300 s) : wpAny M A Builtin.intMaxStrDigits Q E s := by
  obtain ⟨mc, hns, hnone⟩ := hn
  unfold Builtin.intMaxStrDigits
  refine wpAny_bind (wpAny_nsGet hns ?_)
  rw [hnone]
  exact wpAny_pure h
theorem wp_textL {M : Model} {A : Around} {E : Value → Shared → Prop} {s : Shared} {Q : Value → Shared → Prop} {v : Value} {text : List Nat} {n : Int} (hn : s.heap.NoDigits)
    (hs : ¬ (text.takeWhile (· != 0)).length ≤ 640) (hr : (int_private% "readNumeral") 4300 10 (text.takeWhile (· != 0)) = (int_private% "Numeral.value") n)
    (ha : ((text.takeWhile (· != 0)).length == text.length) = true) (h : Q (.int n s.toks) { s with toks := s.toks + 1 }) :
    wpAny M A ((int_private% "intFromText") v text 10) Q E s := by
  obtain ⟨hp, g, d, tk, os⟩ := s
  repeat (any_goals (first
    | assumption
    | (with_reducible refine wpAny_ite_false (decide_eq_false hs) ?_)
    | (with_reducible refine wpAny_ite_true (decide_eq_true ha) ?_)
    | (with_reducible refine maxDigits hn ?_)
    | wp_step))
  all_goals (try rw [hr])
  all_goals (try dsimp only)
  repeat (any_goals (first
    | assumption
    | (with_reducible refine wpAny_ite_false (decide_eq_false hs) ?_)
    | (with_reducible refine wpAny_ite_true (decide_eq_true ha) ?_)
    | (with_reducible refine maxDigits hn ?_)
    | wp_step))
structure Hd2 (p : Prop) : Prop where
  out : p
theorem meets_textL {x : PySem.Str} {u : Tok} {n : Int} (hs : ¬ (numSeenOf x).length ≤ 640) (hl : x.length ≤ 4300) (hn : PySem.intText? x = some n) :
    Meets (Builtin.«int.__new__» ⟨[.type "int", .str x u], []⟩) (fun A R s => s.heap.NoDigits ∧ R (.ok (.ret (.int n s.toks))) { s with toks := s.toks + 1 }) :=
  Meets.of_wp fun prog w A R s h => by
    obtain ⟨hnd, h⟩ := h
    obtain ⟨hp, g, d, tk, os⟩ := s
    have f1 := F.conv_sub_int
    have f2 := F.madeHere_int
    have f3 := KIN.str_int
    have f4 := KIN.str_idx
    have f5 := KIN.str_trunc
    have f6 : typeOf (.str x u) = pure (.type "str") := rfl
    have hr : (int_private% "readNumeral") 4300 10 (numSeenOf x) = (int_private% "Numeral.value") n ∧ ((numSeenOf x).length == (numTextOf x).length) = true := by
      rcases read4300 x (by rw [sizeLine_eq]; omega) with ⟨m, h1, h2, h3⟩ | ⟨h1, _⟩
      · rw [hn] at h1
        injection h1 with h1
        subst h1
        exact ⟨h3, h2⟩
      · rw [hn] at h1
        cases h1
    have hk := Hd2.mk (And.intro hs hr)
    clear hs hr hl hn
    repeat (any_goals (first
      | assumption
      | ((with_reducible show wpAny _ _ ((int_private% "intFromText") _ _ _) _ _ _); refine wp_textL hnd hk.out.1 hk.out.2.1 hk.out.2.2 ?_)
      | wp_step))
    all_goals first | exact ⟨_, rfl, h⟩ | skip
theorem gives_textS {x : PySem.Str} {u : Tok} {n : Int} (hs : (numSeenOf x).length ≤ 640) (hl : x.length ≤ 4300) (hn : PySem.intText? x = some n) : Gives (Builtin.«int.__new__» ⟨[.type "int", .str x u], []⟩) (.int n) :=
  .of_wp fun M A E s Q h => by
    obtain ⟨hp, g, d, tk, os⟩ := s
    have f1 := F.conv_sub_int
    have f2 := F.madeHere_int
    have f3 := KIN.str_int
    have f4 := KIN.str_idx
    have f5 := KIN.str_trunc
    have f6 : typeOf (.str x u) = pure (.type "str") := rfl
    have hr : (int_private% "readNumeral") 0 10 (numSeenOf x) = (int_private% "Numeral.value") n ∧ ((numSeenOf x).length == (numTextOf x).length) = true := by
      rcases read0 x hs with ⟨m, h1, h2, h3⟩ | ⟨h1, _⟩
      · rw [hn] at h1
        injection h1 with h1
        subst h1
        exact ⟨h3, h2⟩
      · rw [hn] at h1
        cases h1
    have hk := Hd2.mk (And.intro hs hr)
    clear hs hr hl hn
    repeat (any_goals (first
      | assumption
      | ((with_reducible show wpAny _ _ ((int_private% "intFromText") _ _ _) _ _ _); refine KIN.wp_text hk.out.1 hk.out.2.1 hk.out.2.2 ?_)
      | wp_step))
    all_goals first | exact ⟨_, rfl, h⟩ | skip
section
variable {X : Cx} {K : PySem.W.Frag}
theorem call_int_strL (hnd : X.base.NoDigits) : CallR X (.type "int") (fun xs H Q => ∃ a n, xs = [.str a] ∧ PySem.intText? a = some n ∧ a.length ≤ 4300 ∧ Q (.int n) H) := by
  intro pins s σ H xs us Q I rs h
  obtain ⟨a, n, ex, hn, hl, h⟩ := h
  subst ex
  obtain ⟨u, rfl, t, rfl⟩ := vals1 rs
  by_cases hs : (numSeenOf a).length ≤ 640
  · refine call_int_1 (gives_textS hs hl hn).meets (show (Made.int n).post _ s from ⟨rfl, ?_⟩)
    exact ⟨.int n, H, I.tok _, ⟨_, rfl⟩, h⟩
  · exact call_int_1 (meets_textL hs hl hn) ⟨hnd.keeps I.bk, rfl, .int n, H, I.tok _, ⟨_, rfl⟩, h⟩
def bIntL : FN
  | [.str z], k => ∃ n, PySem.intText? z = some n ∧ z.length ≤ 4300 ∧ k (.int n)
  | _, _ => False
theorem ok_intL : BiOk K bIntL (fun xs H Q => ∃ a n, xs = [.str a] ∧ PySem.intText? a = some n ∧ a.length ≤ 4300 ∧ Q (.int n) H) := by
  intro F H vs xs k Q s d h c
  unfold bIntL at h
  split at h
  · obtain ⟨v, rfl, d1⟩ := d.one
    rw [d1.str]
    obtain ⟨n, h1, h2, h3⟩ := h
    exact ⟨_, n, rfl, h1, h2, c _ _ F H h3 (Grow.refl s) (.int _)⟩
  · exact False.elim h
end
end DL
namespace DL
open PySem L2 PyProof.Rows StX
def rNil (K : PySem.W.Frag) (neg : Bool) : R2 := fun x y H Q => ∃ a b xs, x = .ref a ∧ y = .ref b ∧ SqL K H a xs ∧ SqL K H b [] ∧ Q (.bl (if neg then !xs.isEmpty else xs.isEmpty)) H
section
variable {G : Gm} {X : Cx} {K : PySem.W.Frag} {F F' H H' : Hp} {ρ : En} {σ : L2.St} {o e e2 ei : Expr} {pos p2 : Pos} {ti : TD} {s : Nat}
theorem vals_nil {its : List Value} (r : Vals [] its) : its = [] := by cases r; rfl
theorem op_eqNil (hu : X.A.units + 64 < cLine) : OpR X (compareOp .Eq) (rNil X.K false) := by
  intro pins s σ H x y v u Q I rx ry ⟨a, b, xs, ex, ey, ha, hb, q⟩
  subst ex ey
  cases rx
  cases ry
  obtain ⟨its, r, pl, hz⟩ := I.list ha
  obtain ⟨jts, rj, pj, _⟩ := I.list hb
  obtain rfl := vals_nil rj
  have hlen := r.length
  cases xs with
  | nil =>
    have : its = [] := vals_nil r
    subst this
    exact SeqAt.RcAt.lists (e := fun _ => true) pl.isList pj.isList rfl (by omega) (fun j h1 h2 => absurd h2 (Nat.not_lt_zero _)) X.prog X.w _ _ ⟨.bl _, H, I, rfl, q⟩
  | cons z zs =>
    refine SeqAt.RcAt.lists_lengths pl.isList pj.isList ?_ (by omega) X.prog X.w _ _ ⟨.bl _, H, I, rfl, q⟩
    rw [List.size_toArray, List.size_toArray, ← hlen]
    rfl
theorem op_neNil (hu : X.A.units + 64 < cLine) : OpR X (compareOp .NotEq) (rNil X.K true) := by
  intro pins s σ H x y v u Q I rx ry ⟨a, b, xs, ex, ey, ha, hb, q⟩
  subst ex ey
  cases rx
  cases ry
  obtain ⟨its, r, pl, hz⟩ := I.list ha
  obtain ⟨jts, rj, pj, _⟩ := I.list hb
  obtain rfl := vals_nil rj
  have hlen := r.length
  cases xs with
  | nil =>
    have : its = [] := vals_nil r
    subst this
    exact SeqAt.RcNeAt.lists (e := fun _ => true) pl.isList pj.isList rfl (by omega) (fun j h1 h2 => absurd h2 (Nat.not_lt_zero _)) X.prog X.w _ _ ⟨.bl _, H, I, rfl, q⟩
  | cons z zs =>
    refine SeqAt.RcNeAt.lists_lengths pl.isList pj.isList ?_ (by omega) X.prog X.w _ _ ⟨.bl _, H, I, rfl, q⟩
    rw [List.size_toArray, List.size_toArray, ← hlen]
    rfl
def cNil (neg : Bool) : F2
  | .list xs, .list [], k => k (.bool (if neg then !xs.isEmpty else xs.isEmpty))
  | _, _, _ => False
theorem dfa_empty {vs : List V} {xs : List PD} (h : DfA K F vs xs) : vs.isEmpty = xs.isEmpty := by cases h <;> rfl
theorem ok_nil (neg : Bool) : Op2Ok K (cNil neg) (rNil K neg) := by
  intro F H vx vy x y k Q s dx dy h c
  unfold cNil at h
  split at h
  · obtain ⟨a, vs, rfl, q, d⟩ := dx.lst s
    obtain ⟨b, us, rfl, q2, d2⟩ := dy.lst s
    have : us = [] := by cases d2; rfl
    subst this
    refine ⟨a, b, vs, rfl, rfl, rdSq q, rdSq q2, ?_⟩
    rw [dfa_empty d]
    exact c _ _ F H h (Grow.refl s) (.bl _)
  · exact False.elim h
def dLnEqF (neg : Bool) (s : Nat) : TD := fun ρ Q => match ρ[s]? with
  | some (some (.ln _ xs)) => Q (.bool (if neg then !xs.isEmpty else xs.isEmpty)) ρ
  | _ => False
theorem lnF_of [Pn] {neg : Bool} {Q : VK} (h : liftD X.K (dLnEqF neg s) σ H Q) : tOp (rNil X.K neg) (tVar s) (liftF X.K (fLst aNil)) σ H Q := by
  obtain ⟨G, ρ, F, Q', R, q, c⟩ := h
  unfold dLnEqF at q
  split at q
  · rename_i p xs er
    obtain ⟨a, es, ea, _⟩ := R.ln_df er
    refine ⟨_, es, G, ρ, F, fun l ρ' => l = .ls none [] ∧ ρ' = ρ, R, ⟨rfl, rfl⟩, fun l ρ' v H' F' hq R' s' r => ?_⟩
    obtain ⟨rfl, rfl⟩ := hq
    obtain ⟨a2, es2, ea2, d2⟩ := R'.ln_df er
    rw [es] at es2
    have : a = a2 := by simpa using es2
    subst this
    obtain ⟨b, rfl, _, ⟨_, _, oo, eo, ok⟩, _⟩ := r
    cases oo <;> first | exact False.elim ok | skip
    cases ok
    refine ⟨a, b, _, rfl, rfl, SqL.of ea2, SqL.of eo, ?_⟩
    rw [show (xs.map fun x => V.ref x.1).isEmpty = xs.isEmpty by cases xs <;> rfl]
    exact c _ _ _ _ _ q R' s' (.bl _)
  · exact False.elim q
theorem LT.lnEqF [Pn] (hu : X.A.units + 64 < cLine) (ho : PE X e (tVar s)) (hl : LF X e2 (fLst aNil)) : LT X (.Compare e [.Eq] [e2] pos) (tVal (dLnEqF false s)) :=
  ⟨ptImp (pt_cmpR (op_eqNil hu) ho hl.p (nomark _)) fun _ _ _ h => tTest_of (fun _ z => lnF_of z) h⟩
theorem LT.lnNeF [Pn] (hu : X.A.units + 64 < cLine) (ho : PE X e (tVar s)) (hl : LF X e2 (fLst aNil)) : LT X (.Compare e [.NotEq] [e2] pos) (tVal (dLnEqF true s)) :=
  ⟨ptImp (pt_cmpR (op_neNil hu) ho hl.p (nomark _)) fun _ _ _ h => tTest_of (fun _ z => lnF_of z) h⟩
def dLnTopF (s : Nat) (ti : TD) : TD := fun ρ Q => match ρ[s]? with
  | some (some (.ln _ xs)) => ti ρ fun i ρ1 => i = .int (-1) ∧ ρ1 = ρ ∧ ∃ b ys, xs.getLast? = some (b, ys) ∧ Q (.bool (!ys.isEmpty)) ρ
  | _ => False
theorem lnTopF_of [Pn] {Q : VK} (h : liftD X.K (dLnTopF s ti) σ H Q) : tOp (rNil X.K true) (tOp (rIx X.K) (tVar s) (liftD X.K ti)) (liftF X.K (fLst aNil)) σ H Q := by
  obtain ⟨G, ρ, F, Q', R, q, c⟩ := h
  unfold dLnTopF at q
  split at q
  · rename_i p xs er
    obtain ⟨a, es, _⟩ := R.ln_at er
    refine ⟨_, es, G, ρ, F, _, R, q, fun i ρ1 v H1 F1 h1 R1 s1 d => ?_⟩
    obtain ⟨rfl, rfl, b, ys, hl, hq⟩ := h1
    obtain rfl : v = V.int (-1) := by cases d; rfl
    obtain ⟨a2, es2, ea2, _, inn⟩ := R1.ln_at er
    rw [es] at es2
    have : a = a2 := by simpa using es2
    subst this
    have hm : (b, ys) ∈ xs := List.mem_of_getLast? hl
    refine .inl ⟨a, _, -1, .ref b, rfl, rfl, SqL.of ea2, map_last (fun x => V.ref x.1) hl, G, ρ1, F1, fun l ρ' => l = .ls none [] ∧ ρ' = ρ1, R1, ⟨rfl, rfl⟩, fun l ρ' v H' F' hq' R' s' r => ?_⟩
    obtain ⟨rfl, rfl⟩ := hq'
    obtain ⟨_, _, _, _, inn2⟩ := R'.ln_at er
    obtain ⟨_, vs, e1, d1⟩ := inn2 b ys hm
    obtain ⟨b2, rfl, _, ⟨_, _, oo, eo, ok⟩, _⟩ := r
    cases oo <;> first | exact False.elim ok | skip
    cases ok
    refine ⟨b, b2, _, rfl, rfl, SqL.of e1, SqL.of eo, ?_⟩
    rw [dfa_empty d1]
    exact c _ _ _ _ _ hq R' (s1.trans s') (.bl _)
  · exact False.elim q
theorem LT.lnTopF [Pn] (hu : X.A.units + 64 < cLine) (ho : PE X o (tVar s)) (hi : LD X ei ti) (hs : PlainIx ei) (hl : LF X e2 (fLst aNil)) : LT X (.Compare (.Subscript o ei p2) [.NotEq] [e2] pos) (tVal (dLnTopF s ti)) :=
  ⟨ptImp (pt_cmpR (op_neNil hu) (pe_ix ix_seq ho hi.p hs) hl.p (nomark _)) fun _ _ _ h => tTest_of (fun _ z => lnTopF_of z) h⟩
end
end DL
namespace DL
open PySem L2 PyProof.Rows PySem.Builtin PySem.Builtin.Str
def repG (x : PySem.Str) (n : Int) : PySem.Str := ⟨((List.replicate n.toNat x.cps.toList).flatten).toArray⟩
theorem repG_len (x : PySem.Str) (n : Int) : (repG x n).length = n.toNat * x.length := by
  show ((List.replicate n.toNat x.cps.toList).flatten).toArray.size = _
  simp
  rfl
section
variable {X : Cx} {K : PySem.W.Frag} {e : Expr} {oa : Op1} {apos pos p1 : Pos}
def rRepG : R2 := fun x y H Q => ∃ a n, x = .str a ∧ y = .int n ∧ (0 ≤ n ∧ n ≤ 100000 ∧ a.length ≤ 100) ∧ Q (.str (repG a n)) H
theorem op_repG : OpR X (binaryOp .Mult) rRepG := by
  intro pins s σ H x y u v Q I rx ry ⟨a, n, ex, ey, ⟨n1, n2, ha⟩, q⟩
  subst ex ey
  obtain ⟨t1, rfl⟩ := rx
  obtain ⟨t2, rfl⟩ := ry
  have sz : sizeLine = 16777216 := sizeLine_eq
  have m1 : n.toNat * a.length ≤ 100000 * 100 := Nat.mul_le_mul (by omega) ha
  have m2 : a.length * n.toNat ≤ 100 * 100000 := Nat.mul_le_mul ha (by omega)
  refine PySem.P.mul_str ?_ (fun h1 _ => ?_) (fun _ _ => ?_) ?_
  · rw [decide_eq_false (by omega), decide_eq_false (by omega)]; rfl
  · have m3 : (a.length : Int) * n ≤ 100 * 100000 := Int.mul_le_mul (by omega) n2 (by omega) (by decide)
    have : (a.length : Int) ≤ (2 ^ 63 - 1) / n := Int.le_ediv_of_mul_le (by omega) (Int.le_trans m3 (by decide))
    omega
  · unfold tooLong
    simp
    omega
  · by_cases h1 : n < 1
    · rw [if_pos h1]
      have e : repG a n = PySem.Str.empty := by
        unfold repG
        rw [show n.toNat = 0 by omega]; rfl
      rw [e] at q
      exact ⟨by decide, .str _, H, I.tok _, ⟨_, rfl⟩, q⟩
    · rw [if_neg h1]
      by_cases h2 : (n == 1 || a.length == 0) = true
      · rw [if_pos h2]
        have e : repG a n = a := by
          unfold repG
          rcases Bool.or_eq_true_iff.mp h2 with h2 | h2
          · have : n = 1 := by simpa using h2
            subst this
            simp
          · have : a.length = 0 := by simpa using h2
            have hc : a.cps = #[] := Array.eq_empty_of_size_eq_zero this
            cases a with
            | mk c =>
              have hc : c = #[] := hc
              subst hc
              simp
        rw [e] at q
        exact ⟨.str a, H, I, ⟨_, rfl⟩, q⟩
      · rw [if_neg h2]
        have e : (⟨(List.replicate n.toNat a.cps).foldl (· ++ ·) #[]⟩ : PySem.Str) = repG a n := by
          unfold repG
          have := fold_list a.cps n.toNat #[]
          congr 1
          rw [← Array.toArray_toList (xs := (List.replicate n.toNat a.cps).foldl (· ++ ·) #[]), this]
          simp
        rw [e]
        refine ⟨?_, .str _, H, I.tok _, ⟨_, rfl⟩, q⟩
        rw [repG_len]; omega
def bRepG : F2
  | .str x, .int n, k => (0 ≤ n ∧ n ≤ 100000 ∧ x.length ≤ 100) ∧ k (.str (repG x n))
  | _, _, _ => False
theorem ok_repG : Op2Ok K bRepG rRepG := by
  intro F H vx vy x y k Q s dx dy h c
  unfold bRepG at h
  split at h
  · rw [dx.str, dy.int]
    exact ⟨_, _, rfl, rfl, h.1, c _ _ F H h.2 (Grow.refl s) (.str _)⟩
  · exact False.elim h
def dJoin (a : PySem.Str) (oa : Op1) : TD := fun ρ Q => oa.run ρ fun x ρ1 => res1 ρ1 x fun d => ∃ ys : List PySem.Str, d = .list (ys.map .str) ∧ (ys.map (·.length)).sum + ys.length * a.length ≤ 16777216 ∧ Q (.str (Txt.join a ys)) ρ1
theorem dfa_strs {F : Hp} {vs : List V} {ys : List PySem.Str} (h : DfA K F vs (ys.map .str)) : vs = ys.map V.str := by
  induction ys generalizing vs with
  | nil => cases h; rfl
  | cons y r ih =>
    cases h with
    | cons a b => cases a; rw [ih b]; rfl
theorem LD.join [Pn] {a : PySem.Str} {k : Nat} (h : LO X e oa) (hs : starEach [e] X.env = [(false, eval e X.env)] := by rfl) (hbase : attributeBase (Expr.Constant (Const.str a) k p1) "join" X.env (eval (Expr.Constant (Const.str a) k p1) X.env) = eval (Expr.Constant (Const.str a) k p1) X.env := by rfl) (hline : (apos.endLine == pos.line) = true := by rfl) :
    LD X (.Call (.Attribute (Expr.Constant (Const.str a) k p1) "join" apos) [e] [] pos) (dJoin a oa) :=
  ⟨peImp (pe_join pe_str h.p hs hbase hline) fun σ H Q ⟨G, ρ, F, Q', R, q, c⟩ => ⟨⟨a, rfl⟩, G, ρ, F, _, R, q, fun x ρ1 v H1 F1 h1 R1 s1 ax => by
    obtain ⟨d, ⟨ys, ed, hz, h2⟩, dx⟩ := res1_dr R1 ax h1
    subst ed
    obtain ⟨l, us, rfl, hq, dd⟩ := dx.lst R1.fh
    rw [dfa_strs dd] at hq
    exact ⟨a, l, ys, rfl, rfl, .inl (rdSq hq), hz, c _ _ _ _ _ h2 R1 s1 (.str _)⟩⟩⟩
end
end DL
namespace DL
open PySem L2 PyProof.Rows
def Dk (b : Nat) (dk : List PD) : Prop := ∃ (ns : List Int) (a e c : Int), dk = [.list (ns.map .int), .int a, .int e, .int c] ∧ 0 ≤ c ∧ c + b ≤ 2 ^ 40
def S_draw : FSpec := ⟨fun args Q => ∃ (b : Nat) (dk : List PD) (many : Int), args = [.ls (some 0) dk, .d (.int many)] ∧ Dk (b + 1) dk ∧ (0 < many ∧ many.natAbs.log2 < 8000) ∧ ∀ r dk', 0 ≤ r → r < many → Dk b dk' → Q (.d (.int r)) [.ls (some 0) dk']⟩
theorem Dk.mono {b c : Nat} {dk : List PD} (h : Dk b dk) (hc : c ≤ b) : Dk c dk := by
  obtain ⟨ns, a, e, d, rfl, h0, h1⟩ := h
  exact ⟨ns, a, e, d, rfl, h0, by omega⟩
abbrev N_law_draw_a51a : List Str := ["deck", "many", "found", "cell", "mixed"]
def ir_law_draw_a51a : TSt :=
  (sSeq (sSetL 0 (.e (dC (.int 3))) (dBin bAdd (.e (dBin bIx (.s 0) (.e (dC (.int 3))))) (.e (dC (.int 1)))))
    (sSeq (sIf (tVal (dBin cGt (.e (dBin bIx (.s 0) (.e (dC (.int 2))))) (.e (dC (.int 0))))) (sSeq (sAsg 2 (fD (dBin bMod (.e (dBi bInt (aCons (.e (dBin bIx (.s 0) (.e (dC (.int 2))))) aNil))) (.s 1))))
    (sSeq (sSetL 0 (.e (dC (.int 2))) (dBin bFdiv (.e (dBin bIx (.s 0) (.e (dC (.int 2))))) (.s 1)))
    (sRetV 2))) sNext)
    (sSeq (sAsg 3 (fD (dC (.int 47))))
    (sSeq (sIf (tVal (dBin cNe (.e (dBin bIx (.s 0) (.e (dC (.int 0))))) (.e (dFz (fLst aNil))))) (sAsg 3 (fD (dBin bIx (.e (dBin bIx (.s 0) (.e (dC (.int 0))))) (.e (dBin bMod (.e (dBi bInt (aCons (.e (dBin bIx (.s 0) (.e (dC (.int 1))))) aNil))) (.e (dBi bLen (aCons (.e (dBin bIx (.s 0) (.e (dC (.int 0))))) aNil)))))))) sNext)
    (sSeq (sSetL 0 (.e (dC (.int 1))) (dBin bAdd (.e (dBin bIx (.s 0) (.e (dC (.int 1))))) (.e (dC (.int 1)))))
    (sSeq (sIf (tAndD (tVal (dBin cGe (.e (dBi bAbs (aCons (.s 3) aNil))) (.e (dBin bPow (.e (dC (.int 10))) (.e (dC (.int 18))))))) (tVal (dBin cLe (.e (dBin bIx (.s 0) (.e (dC (.int 1))))) (.e (dBi bLen (aCons (.e (dBin bIx (.s 0) (.e (dC (.int 0))))) aNil)))))) (sSeq (sSetL 0 (.e (dC (.int 2))) (dBin bFdiv (.e (dBi bAbs (aCons (.s 3) aNil))) (.s 1)))
    (sRet (fD (dBin bMod (.e (dBi bInt (aCons (.e (dBi bAbs (aCons (.s 3) aNil))) aNil))) (.s 1))))) sNext)
    (sSeq (sAsg 4 (fD (dBin bMod (.e (dBin bPow (.e (dBi bInt (aCons (.e (dBin bAdd (.e (dBin bMod (.e (dBi bInt (aCons (.s 3) aNil))) (.e (dC (.int 2147483587))))) (.e (dBin bMulI (.e (dC (.int 67280423))) (.e (dBin bIx (.s 0) (.e (dC (.int 3))))))))) aNil))) (.e (dC (.int 5))))) (.e (dC (.int 2147483629))))))
    (sSeq (sAsg 4 (fD (dBin bMod (.e (dBin bPow (.e (dBi bInt (aCons (.e (dBin bAdd (.e (dBin bMulI (.s 4) (.e (dBin bAdd (.e (dBin bMulI (.e (dC (.int 2))) (.e (dBin bIx (.s 0) (.e (dC (.int 3))))))) (.e (dC (.int 3))))))) (.e (dC (.int 7919))))) aNil))) (.e (dC (.int 3))))) (.e (dC (.int 2147483563))))))
    (sRet (fD (dBin bMod (.e (dBin bFdiv (.s 4) (.e (dC (.int 32))))) (.s 1))))))))))))
theorem sp_draw : ∀ args Q, S_draw.sp args Q → ir_law_draw_a51a (endsOf args Q) (rho0 N_law_draw_a51a args) := by
  rintro args Q ⟨b, dk, many, rfl, ⟨ns, a, e, c, rfl, h0, h1⟩, ⟨m0, m1⟩, q⟩
  have L : (ns.map PyData.int).length = ns.length := List.length_map _
  have fin : ∀ (dk' : List PD) (r : Int), Dk b dk' → Q (.d (.int (r % many))) [.ls (some 0) dk'] := fun dk' r z => q _ _ (Int.emod_nonneg _ (by omega)) (Int.emod_lt_of_pos _ m0) z
  have dko : ∀ a' e', Dk b [.list (ns.map .int), .int a', .int e', .int (c + 1)] := fun a' e' => ⟨ns, a', e', _, rfl, by omega, by omega⟩
  have nn : ∀ x : Int, (x % 2147483587 + 67280423 * (c + 1)).natAbs < 2 ^ 70 := fun x => by
    have a1 := Int.emod_lt_of_pos x (b := 2147483587) (by decide)
    have a2 := Int.emod_nonneg x (b := 2147483587) (by decide)
    omega
  have nm : ∀ x : Int, (x % 2147483629 * (2 * (c + 1) + 3) + 7919).natAbs < 2 ^ 80 := fun x => by
    have a1 := Int.emod_lt_of_pos x (b := 2147483629) (by decide)
    have a2 := Int.emod_nonneg x (b := 2147483629) (by decide)
    have a3 : x % 2147483629 * (2 * (c + 1) + 3) ≤ 2147483629 * (2 ^ 42) := Int.mul_le_mul (by omega) (by omega) (by omega) (by decide)
    have a4 : 0 ≤ x % 2147483629 * (2 * (c + 1) + 3) := Int.mul_nonneg a2 (by omega)
    omega
  have ab : ∀ x : Int, 0 ≤ (if x < 0 then -x else x) := fun x => by split <;> omega
  have tt : ∀ {x : Int}, x < 2147483629 → 0 ≤ x → x.natAbs < 2 ^ 32 := fun h1 h2 => by omega
  -- deck[3] = deck[3] + 1
  refine ⟨_, rfl, 3, rfl, ?_⟩
  -- deck[2] > 0
  refine ⟨_, rfl, fun g => ?_, fun g => ?_⟩
  · refine ⟨_, rfl, m0, _, rfl, ⟨m0, by omega⟩, 2, rfl, ?_⟩
    exact fin _ _ (dko _ _)
  refine ⟨_, rfl, (Shp.list (n := 0) (Shp.ints ns)).shp, ⟨rfl, rfl⟩, fun g2 => ?_, fun g2 => ?_⟩
  · have hl : 0 < ns.length := by
      cases ns with
      | nil => simp [eqv_nil, Lc.pd] at g2
      | cons x r => simp
    obtain ⟨cell, e1, e2⟩ := atI_some (xs := ns.map PyData.int) (i := a % ((ns.map PyData.int).length : Int)) (Int.emod_nonneg _ (by omega)) (Int.emod_lt_of_pos _ (by omega))
    rw [List.getElem?_map] at e2
    obtain ⟨cell, e3, rfl⟩ := Option.map_eq_some_iff.mp e2
    refine ⟨_, rfl, _, rfl, _, rfl, by rw [L]; omega, _, e1, _, rfl, 1, rfl, ?_⟩
    refine ⟨powOk (k := 4) (m := 18) (by decide) (by decide) (by decide), fun g3 => ⟨_, rfl, _, rfl, fun g4 => ?_, fun g4 => ?_⟩, fun g3 => ⟨nofun, fun g4 => ?_⟩⟩
    · exact ⟨⟨m0, by omega⟩, 2, rfl, m0, fin _ _ (dko _ _)⟩
    all_goals
      refine ⟨by decide, _, rfl, mulOk 30 50 (by decide) (by omega), powOk (k := 70) (m := 5) (nn _) (by decide) (by decide), by decide, _, rfl, mulOk 2 50 (by decide) (by omega), mulOk 32 50 ?_ (by omega), powOk (k := 80) (m := 3) (nm _) (by decide) (by decide), by decide, ⟨by decide, by decide⟩, m0, fin _ _ (dko _ _)⟩
      have a1 := Int.emod_lt_of_pos ((cell % 2147483587 + 67280423 * (c + 1)) ^ 5) (b := 2147483629) (by decide)
      have a2 := Int.emod_nonneg ((cell % 2147483587 + 67280423 * (c + 1)) ^ 5) (b := 2147483629) (by decide)
      exact tt a1 a2
  · refine ⟨_, rfl, 1, rfl, ?_⟩
    refine ⟨powOk (k := 4) (m := 18) (by decide) (by decide) (by decide), fun g3 => ⟨_, rfl, _, rfl, fun g4 => ?_, fun g4 => ?_⟩, fun g3 => ⟨nofun, fun g4 => ?_⟩⟩
    · exact ⟨⟨m0, by omega⟩, 2, rfl, m0, fin _ _ (dko _ _)⟩
    all_goals
      refine ⟨by decide, _, rfl, mulOk 30 50 (by decide) (by omega), powOk (k := 70) (m := 5) (nn _) (by decide) (by decide), by decide, _, rfl, mulOk 2 50 (by decide) (by omega), mulOk 32 50 ?_ (by omega), powOk (k := 80) (m := 3) (nm _) (by decide) (by decide), by decide, ⟨by decide, by decide⟩, m0, fin _ _ (dko _ _)⟩
      have a1 := Int.emod_lt_of_pos ((47 % 2147483587 + 67280423 * (c + 1)) ^ 5) (b := 2147483629) (by decide)
      have a2 := Int.emod_nonneg ((47 % 2147483587 + 67280423 * (c + 1)) ^ 5) (b := 2147483629) (by decide)
      exact tt a1 a2
def S_one : FSpec := ⟨fun args Q => ∃ (b : Nat) (dk xs : List PD), args = [.ls (some 0) dk, .d (.list xs)] ∧ Dk (b + 1) dk ∧ (0 < xs.length ∧ xs.length < 2 ^ 60) ∧ ∀ x dk', x ∈ xs → Dk b dk' → Q (.d x) [.ls (some 0) dk']⟩
abbrev N_law_one_90da : List Str := ["deck", "items"]
def ir_law_one_90da (S_law_draw_a51a : FSpec) : TSt :=
  (sRet (fD (dBin bIx (.s 1) (.e (dFz (fCall S_law_draw_a51a (aCons (.s 0) (aCons (.e (dBi bLen (aCons (.s 1) aNil))) aNil))))))))
theorem sp_one : ∀ args Q, S_one.sp args Q → ir_law_one_90da S_draw (endsOf args Q) (rho0 N_law_one_90da args) := by
  rintro args Q ⟨b, dk, xs, rfl, h1, ⟨h2, h3⟩, q⟩
  have hl : ((xs.length : Nat) : Int).natAbs.log2 < 8000 := by
    have := (Nat.log2_lt (n := xs.length) (k := 60) (by omega)).mpr h3
    rw [Int.natAbs_natCast]; omega
  refine ⟨rfl, b, dk, (xs.length : Nat), rfl, h1, ⟨by omega, hl⟩, fun r dk' h4 h5 h6 => ?_⟩
  obtain ⟨x, e1, e2⟩ := atI_some (xs := xs) h4 h5
  exact ⟨x, e1, q x dk' (List.mem_of_getElem? e2) h6⟩
def S_deck : FSpec := ⟨fun args Q => ∃ ns : List Int, args = [.sc (ns.map .int)] ∧ ns.length ≤ 63 ∧ ∀ dk, Dk (2 ^ 40) dk → Q (.ls none dk) []⟩
abbrev N_law_deck_91e6 : List Str := ["script"]
def ir_law_deck_91e6 : TSt :=
  (sRet (fLst (aCons (.e (dFz (fList (aCons (.e (dSlS 0 pNone (pSome (.e (dC (.int 63)))))) aNil)))) (aCons (.e (dC (.int 0))) (aCons (.e (dC (.int 0))) (aCons (.e (dC (.int 0))) aNil))))))
theorem cut_ints (ns : List Int) (a b : Option Int) : ∃ ms : List Int, cutD (ns.map PyData.int) a b = ms.map PyData.int := by
  unfold cutD
  rw [← List.map_drop, ← List.map_take]
  exact ⟨_, rfl⟩
theorem sp_deck : ∀ args Q, S_deck.sp args Q → ir_law_deck_91e6 (endsOf args Q) (rho0 N_law_deck_91e6 args) := by
  rintro args Q ⟨ns, rfl, h1, q⟩
  obtain ⟨ms, e⟩ := cut_ints ns none (some 63)
  refine .inl (q _ ⟨ms, 0, 0, 0, ?_, by decide, by decide⟩)
  rw [← e]; rfl
end DL
namespace DL
open PySem L2 PyProof.Rows
inductive FT where
  | int (i : Int)
  | x
  | y
  | add (a b : FT)
  | sub (a b : FT)
  | mul (a b : FT)
  | pow (a : FT) (n : Nat)
def FT.pd : FT → PD
  | int i => .int i
  | x => .str "x"
  | y => .str "y"
  | add a b => .tuple [.str "add", a.pd, b.pd]
  | sub a b => .tuple [.str "sub", a.pd, b.pd]
  | mul a b => .tuple [.str "mul", a.pd, b.pd]
  | pow a n => .tuple [.str "pow", a.pd, .int n]
def FT.val (u v : Int) : FT → Int
  | int i => i
  | x => u
  | y => v
  | add a b => a.val u v + b.val u v
  | sub a b => a.val u v - b.val u v
  | mul a b => a.val u v * b.val u v
  | pow a n => a.val u v ^ n
def FT.lev : FT → Nat
  | add a b | sub a b | mul a b => max a.lev b.lev + 1
  | pow a _ => a.lev + 1
  | _ => 1
def FT.e : FT → Nat
  | add a b | sub a b => max a.e b.e
  | mul a b => a.e + b.e
  | pow a n => a.e * max 1 n
  | _ => 1
def FT.le (m : Nat) : FT → Prop
  | int i => i.natAbs < 2 ^ m
  | add a b | sub a b | mul a b => a.le m ∧ b.le m
  | pow a _ => a.le m
  | _ => True
def FT.hasY : FT → Bool
  | y => true
  | add a b | sub a b | mul a b => a.hasY || b.hasY
  | pow a _ => a.hasY
  | _ => false
theorem FT.e_pos : ∀ f : FT, 1 ≤ f.e
  | int _ => Nat.le_refl _
  | x => Nat.le_refl _
  | y => Nat.le_refl _
  | add a b => Nat.le_trans a.e_pos (Nat.le_max_left _ _)
  | sub a b => Nat.le_trans a.e_pos (Nat.le_max_left _ _)
  | mul a b => Nat.le_trans a.e_pos (Nat.le_add_right _ _)
  | pow a n => Nat.mul_pos a.e_pos (by omega)
theorem FT.lev_pos : ∀ f : FT, 1 ≤ f.lev
  | int _ => Nat.le_refl _
  | x => Nat.le_refl _
  | y => Nat.le_refl _
  | add a b => Nat.succ_le_succ (Nat.zero_le _)
  | sub a b => Nat.succ_le_succ (Nat.zero_le _)
  | mul a b => Nat.succ_le_succ (Nat.zero_le _)
  | pow a n => Nat.succ_le_succ (Nat.zero_le _)
def FT.ok (m : Nat) (f : FT) : Prop := f.le m ∧ (f.lev + m) * f.e ≤ 100000
theorem rngD_get {lo : Int} {n i : Nat} {x : PD} (h : (rngD lo n)[i]? = some x) : x = .int (lo + (i : Nat)) ∧ i < n := by
  unfold rngD at h
  rw [List.getElem?_map] at h
  obtain ⟨j, h1, rfl⟩ := Option.map_eq_some_iff.mp h
  have hi : i < n := by have := (List.getElem?_eq_some_iff.mp h1).1; simpa using this
  rw [List.getElem?_range hi] at h1
  cases h1
  exact ⟨rfl, hi⟩
theorem rngD_len {lo : Int} {n : Nat} : (rngD lo n).length = n := by unfold rngD; simp
end DL
namespace DL
open PySem L2 PyProof.Rows
end DL
namespace DL
open PySem L2 PyProof.Rows
def Lets (yy : Bool) (ls : List PD) : Prop := 0 < ls.length ∧ ls.length < 100 ∧ ∀ l ∈ ls, l = FT.x.pd ∨ (yy = true ∧ l = FT.y.pd)
def FT.leaf (yy : Bool) (m : Nat) (f : FT) : Prop := f.lev = 1 ∧ f.e = 1 ∧ f.le m ∧ (f.hasY = true → yy = true)
abbrev N_law_leaf_a91b : List Str := ["deck", "letters", "far", "wide", "some"]
def ir_law_leaf_a91b (S_law_draw_a51a : FSpec) (S_law_one_90da : FSpec) : TSt :=
  (sSeq (sAsg 2 (fD (dBin bAdd (.e (dBin bMulI (.e (dFz (fCall S_law_draw_a51a (aCons (.s 0) (aCons (.e (dBin bPow (.e (dC (.int 10))) (.e (dC (.int 19))))) aNil))))) (.e (dBin bPow (.e (dC (.int 10))) (.e (dC (.int 20))))))) (.e (dFz (fCall S_law_draw_a51a (aCons (.s 0) (aCons (.e (dBin bPow (.e (dC (.int 10))) (.e (dC (.int 19))))) aNil))))))))
    (sSeq (sAsg 3 (fCall S_law_one_90da (aCons (.s 0) (aCons (.e (dFz (fLst (aCons (.e (dVar 2)) (aCons (.e (dNeg (.s 2))) (aCons (.e (dBin bSub (.e (dBin bPow (.e (dC (.int 10))) (.e (dC (.int 40))))) (.e (dC (.int 1))))) (aCons (.e (dBin bSub (.e (dC (.int 1))) (.e (dBin bPow (.e (dC (.int 10))) (.e (dC (.int 40))))))) aNil))))))) aNil))))
    (sSeq (sAsg 4 (fLst (aCons (.e (dC (.int 0))) (aCons (.e (dC (.int 1))) (aCons (.e (dNeg (.e (dC (.int 1))))) (aCons (.e (dC (.int 2))) (aCons (.e (dC (.int 3))) (aCons (.e (dNeg (.e (dC (.int 5))))) (aCons (.e (dC (.int 6))) (aCons (.e (dC (.int 12))) (aCons (.e (dBin bSub (.e (dFz (fCall S_law_draw_a51a (aCons (.s 0) (aCons (.e (dC (.int 199))) aNil))))) (.e (dC (.int 99))))) (aCons (.e (dVar 3)) aNil))))))))))))
    (sRet (fCall S_law_one_90da (aCons (.s 0) (aCons (.e (dFz (fLst (aCons (.e (dFz (fCall S_law_one_90da (aCons (.s 0) (aCons (.e (dVar 4)) aNil))))) (aCons (.e (dFz (fCall S_law_one_90da (aCons (.s 0) (aCons (.e (dVar 1)) aNil))))) (aCons (.e (dFz (fCall S_law_one_90da (aCons (.s 0) (aCons (.e (dVar 1)) aNil))))) aNil)))))) aNil)))))))
def cst : Nat → Nat
  | 0 => 8
  | d + 1 => 2 * cst d + 3
theorem cst_ge : ∀ d, 8 ≤ cst d
  | 0 => Nat.le_refl _
  | d + 1 => by have := cst_ge d; show 8 ≤ 2 * cst d + 3; omega
def FT.drawn (yy : Bool) (m room deep : Nat) (f : FT) : Prop := f.lev ≤ deep ∧ f.e ≤ room ∧ f.le m ∧ (f.hasY = true → yy = true)
abbrev N_law_formula_6b2b : List Str := ["deck", "letters", "room", "deep", "way", "word", "one", "power", "part"]
def ir_law_formula_6b2b (S_law_draw_a51a : FSpec) (S_law_leaf_a91b : FSpec) (S_law_formula_6b2b : FSpec) : TSt :=
  (sSeq (sAsg 4 (fCall S_law_draw_a51a (aCons (.s 0) (aCons (.e (dC (.int 9))) aNil))))
    (sSeq (sIf (tOrD (tVal (dBin cLt (.s 3) (.e (dC (.int 2))))) (tOrD (tVal (dBin cLt (.s 4) (.e (dC (.int 2))))) (tAndD (tVal (dBin cLt (.s 2) (.e (dC (.int 2))))) (tVal (dBin (cIn false) (.s 4) (.e (dFz (fLst (aCons (.e (dC (.int 5))) (aCons (.e (dC (.int 6))) (aCons (.e (dC (.int 7))) aNil))))))))))) (sRet (fCall S_law_leaf_a91b (aCons (.s 0) (aCons (.e (dVar 1)) aNil)))) sNext)
    (sSeq (sIf (tVal (dBin cLt (.s 4) (.e (dC (.int 5))))) (sSeq (sAsg 5 (fD (dBin bIx (.e (dFz (fLst (aCons (.e (dC (.str "add"))) (aCons (.e (dC (.str "sub"))) (aCons (.e (dC (.str "add"))) aNil)))))) (.e (dBin bSub (.s 4) (.e (dC (.int 2))))))))
    (sSeq (sAsg 6 (fCall S_law_formula_6b2b (aCons (.s 0) (aCons (.e (dVar 1)) (aCons (.e (dVar 2)) (aCons (.e (dBin bSub (.s 3) (.e (dC (.int 1))))) aNil))))))
    (sRet (fD (dTup (aCons (.e (dVar 5)) (aCons (.e (dVar 6)) (aCons (.e (dFz (fCall S_law_formula_6b2b (aCons (.s 0) (aCons (.e (dVar 1)) (aCons (.e (dVar 2)) (aCons (.e (dBin bSub (.s 3) (.e (dC (.int 1))))) aNil))))))) aNil)))))))) sNext)
    (sSeq (sIf (tVal (dBin cEq (.s 4) (.e (dC (.int 8))))) (sSeq (sAsg 7 (fCall S_law_draw_a51a (aCons (.s 0) (aCons (.e (dBin bAdd (.s 2) (.e (dC (.int 1))))) aNil))))
    (sRet (fD (dTup (aCons (.e (dC (.str "pow"))) (aCons (.e (dFz (fCall S_law_formula_6b2b (aCons (.s 0) (aCons (.e (dVar 1)) (aCons (.e (dBin bFdiv (.s 2) (.e (dBi bMax2 (aCons (.e (dC (.int 1))) (aCons (.s 7) aNil)))))) (aCons (.e (dBin bSub (.s 3) (.e (dC (.int 1))))) aNil))))))) (aCons (.e (dVar 7)) aNil))))))) sNext)
    (sSeq (sAsg 8 (fD (dBin bAdd (.e (dC (.int 1))) (.e (dFz (fCall S_law_draw_a51a (aCons (.s 0) (aCons (.e (dBin bSub (.s 2) (.e (dC (.int 1))))) aNil))))))))
    (sSeq (sAsg 6 (fCall S_law_formula_6b2b (aCons (.s 0) (aCons (.e (dVar 1)) (aCons (.e (dVar 8)) (aCons (.e (dBin bSub (.s 3) (.e (dC (.int 1))))) aNil))))))
    (sRet (fD (dTup (aCons (.e (dC (.str "mul"))) (aCons (.e (dVar 6)) (aCons (.e (dFz (fCall S_law_formula_6b2b (aCons (.s 0) (aCons (.e (dVar 1)) (aCons (.e (dBin bSub (.s 2) (.s 8))) (aCons (.e (dBin bSub (.s 3) (.e (dC (.int 1))))) aNil))))))) aNil))))))))))))
end DL
namespace DL
open PySem L2 PyProof.Rows
def FT.row (f : FT) (c : Int) (n : Nat) : List PD := (List.range n).map fun i => .int (f.val (i : Nat) 0 % c)
end DL
namespace DL
open PySem L2 PyProof.Rows
theorem Shw.tup3 {n x y z : Nat} {a b c : PD} (h1 : Shw n x a) (h2 : Shw n y b) (h3 : Shw n z c) : Shw (n + 1) (x + y + z + 9) (.tuple [a, b, c]) := by
  refine ⟨?_, ?_, ?_, ?_⟩
  · simp [noDict, noDictA, h1.nd, h2.nd, h3.nd]
  · simp [shw, shwA, h1.sh, h2.sh, h3.sh]
  · simp only [PyData.depth]
    exact Nat.succ_le_succ (depthAll_le fun w hw => by
      simp only [List.mem_cons, List.not_mem_nil, or_false] at hw
      rcases hw with rfl | rfl | rfl
      · exact h1.dp
      · exact h2.dp
      · exact h3.dp)
  · rw [PyData.shown, shownAll_map]
    have a := tupleText_le 0 ([a, b, c].map PyData.shown)
    have e1 := h1.ln
    have e2 := h2.ln
    have e3 := h3.ln
    simp only [List.map_cons, List.map_nil, lenS] at a ⊢
    omega
def FT.sz (m : Nat) : FT → Nat
  | add a b | sub a b | mul a b => a.sz m + b.sz m + 14
  | pow a _ => a.sz m + 35
  | _ => m + 3
theorem FT.shw {m : Nat} (hm : m ≤ 14000) (h0 : 0 < m) : ∀ {f : FT}, f.le m → f.e < 2 ^ 20 → Shw f.lev (f.sz m) f.pd
  | int i, h, _ => (Shw.int h hm h0).mono (Nat.le_refl _) (by simp only [sz]; omega)
  | x, _, _ => Shw.str (by show _ ≤ m + 3; exact Nat.le_trans (show (reprText "x").length ≤ 3 by decide +kernel) (by omega))
  | y, _, _ => Shw.str (by show _ ≤ m + 3; exact Nat.le_trans (show (reprText "y").length ≤ 3 by decide +kernel) (by omega))
  | add a b, h, he => by
    simp only [FT.e] at he
    have z := Shw.tup3 (n := max a.lev b.lev) (Shw.str (z := 5) (x := "add") (by decide +kernel)) ((shw hm h0 h.1 (by omega)).mono (Nat.le_max_left _ _) (Nat.le_refl _)) ((shw hm h0 h.2 (by omega)).mono (Nat.le_max_right _ _) (Nat.le_refl _))
    exact z.mono (Nat.le_refl _) (by simp only [sz]; omega)
  | sub a b, h, he => by
    simp only [FT.e] at he
    have z := Shw.tup3 (n := max a.lev b.lev) (Shw.str (z := 5) (x := "sub") (by decide +kernel)) ((shw hm h0 h.1 (by omega)).mono (Nat.le_max_left _ _) (Nat.le_refl _)) ((shw hm h0 h.2 (by omega)).mono (Nat.le_max_right _ _) (Nat.le_refl _))
    exact z.mono (Nat.le_refl _) (by simp only [sz]; omega)
  | mul a b, h, he => by
    simp only [FT.e] at he
    have z := Shw.tup3 (n := max a.lev b.lev) (Shw.str (z := 5) (x := "mul") (by decide +kernel)) ((shw hm h0 h.1 (by omega)).mono (Nat.le_max_left _ _) (Nat.le_refl _)) ((shw hm h0 h.2 (by omega)).mono (Nat.le_max_right _ _) (Nat.le_refl _))
    exact z.mono (Nat.le_refl _) (by simp only [sz]; omega)
  | pow a n, h, he => by
    simp only [FT.e] at he
    have e1 : a.e ≤ a.e * max 1 n := Nat.le_mul_of_pos_right _ (by omega)
    have e2 : max 1 n ≤ a.e * max 1 n := Nat.le_mul_of_pos_left _ a.e_pos
    have z := Shw.tup3 (n := a.lev) (Shw.str (z := 5) (x := "pow") (by decide +kernel)) (shw hm h0 (f := a) h (by omega)) (Shw.int (i := (n : Nat)) (k := 20) (by omega))
    exact z.mono (Nat.le_refl _) (by simp only [sz]; omega)
theorem FT.sz_le {m : Nat} : ∀ f : FT, f.sz m + 40 ≤ (m + 40) * 2 ^ f.lev
  | int _ => by simp only [sz, lev]; omega
  | x => by simp only [sz, lev]; omega
  | y => by simp only [sz, lev]; omega
  | add a b => key (sz_le a) (sz_le b)
  | sub a b => key (sz_le a) (sz_le b)
  | mul a b => key (sz_le a) (sz_le b)
  | pow a _ => by
    have h := sz_le (m := m) a
    simp only [sz, lev, Nat.pow_succ]
    have : 40 ≤ (m + 40) * 2 ^ a.lev := Nat.le_trans (by omega) (Nat.le_mul_of_pos_right _ (Nat.pow_pos (by decide)))
    rw [← Nat.mul_assoc]
    omega
where
  key {s t a b : Nat} (h1 : s + 40 ≤ (m + 40) * 2 ^ a) (h2 : t + 40 ≤ (m + 40) * 2 ^ b) : s + t + 14 + 40 ≤ (m + 40) * 2 ^ (max a b + 1) := by
    have x1 : (m + 40) * 2 ^ a ≤ (m + 40) * 2 ^ max a b := Nat.mul_le_mul_left _ (Nat.pow_le_pow_right (by decide) (Nat.le_max_left _ _))
    have x2 : (m + 40) * 2 ^ b ≤ (m + 40) * 2 ^ max a b := Nat.mul_le_mul_left _ (Nat.pow_le_pow_right (by decide) (Nat.le_max_right _ _))
    rw [Nat.pow_succ, ← Nat.mul_assoc]
    omega
theorem FT.drawn.shw {yy : Bool} {room deep : Nat} {f : FT} (h : f.drawn yy 140 room deep) (hr : room ≤ 1000) (hd : deep ≤ 16) : Shw 16 (180 * 2 ^ 16) f.pd := by
  have z := FT.shw (m := 140) (by decide) (by decide) h.2.2.1 (by have := h.2.1; omega)
  refine z.mono (Nat.le_trans h.1 hd) ?_
  have a := f.sz_le (m := 140)
  have b : (140 + 40) * 2 ^ f.lev ≤ 180 * 2 ^ 16 := Nat.mul_le_mul_left _ (Nat.pow_le_pow_right (by decide) (Nat.le_trans h.1 hd))
  omega
theorem FT.drawn.ok {yy : Bool} {room deep m : Nat} {f : FT} (h : f.drawn yy 140 room deep) (hm : 140 ≤ m) (hb : (deep + m) * room ≤ 100000) : f.ok m := by
  obtain ⟨h1, h2, h3, _⟩ := h
  refine ⟨?_, Nat.le_trans (Nat.mul_le_mul (by omega) h2) hb⟩
  have go : ∀ g : FT, g.le 140 → g.le m := fun g => by
    induction g with
    | int i => exact fun h => Nat.lt_of_lt_of_le h (Nat.pow_le_pow_right (by decide) hm)
    | x => exact id
    | y => exact id
    | add a b ha hb => exact fun h => ⟨ha h.1, hb h.2⟩
    | sub a b ha hb => exact fun h => ⟨ha h.1, hb h.2⟩
    | mul a b ha hb => exact fun h => ⟨ha h.1, hb h.2⟩
    | pow a n ha => exact ha
  exact go f h3
end DL
namespace DL
open PySem L2 PyProof.Rows
theorem lets_xy : Lets true [FT.x.pd, FT.y.pd] := ⟨by decide, by decide, fun l hl => by
  simp only [List.mem_cons, List.not_mem_nil, or_false] at hl
  rcases hl with h | h
  · exact .inl h
  · exact .inr ⟨rfl, h⟩⟩
end DL
namespace DL
open PySem L2 PyProof.Rows
def fallI (x : Int) : Nat → Int
  | 0 => 1
  | n + 1 => fallI x n * (x - (n : Nat))
theorem fallI_fact : ∀ (n k : Nat), fallI ((n + k : Nat) : Int) n > 0
  | 0, _ => by show (0 : Int) < 1; decide
  | n + 1, k => by
    have h := fallI_fact n (k + 1)
    rw [show n + (k + 1) = n + 1 + k by omega] at h
    exact Int.mul_pos h (by omega)
def FT.deg : FT → Nat
  | int _ => 0
  | x => 1
  | y => 1
  | add a b | sub a b => max a.deg b.deg
  | mul a b => a.deg + b.deg
  | pow a n => a.deg * n
def FT.ok2 (f : FT) : Prop := f.lev ≤ 17 ∧ f.e ≤ 20 ∧ f.le 140 ∧ f.deg ≤ 16 ∧ f.sz 140 ≤ 100000
end DL
namespace DL
open PySem L2 PyProof.Rows
def FT.in40 : FT → Prop
  | int i => i.natAbs < 10 ^ 40
  | add a b | sub a b | mul a b => a.in40 ∧ b.in40
  | pow a _ => a.in40
  | _ => True
def FT.leafB (yy : Bool) (f : FT) : Prop := f.lev = 1 ∧ f.e = 1 ∧ f.in40 ∧ (f.hasY = true → yy = true)
theorem lets_leafB {yy : Bool} {ls : List PD} {l : PD} (h : Lets yy ls) (hl : l ∈ ls) : ∃ f : FT, l = f.pd ∧ f.leafB yy := by
  rcases h.2.2 l hl with rfl | ⟨hy, rfl⟩
  · exact ⟨.x, rfl, rfl, rfl, trivial, nofun⟩
  · exact ⟨.y, rfl, rfl, rfl, trivial, fun _ => hy⟩
def S_leafB : FSpec := ⟨fun args Q => ∃ (b : Nat) (dk ls : List PD) (yy : Bool), args = [.ls (some 0) dk, .d (.list ls)] ∧ Dk (b + 8) dk ∧ Lets yy ls ∧ ∀ (f : FT) dk', f.leafB yy → Dk b dk' → Q (.d f.pd) [.ls (some 0) dk']⟩
def SmIB (x : PD) : Prop := ∃ i : Int, x = .int i ∧ i.natAbs < 10 ^ 40
theorem smIB {i : Int} (h : i.natAbs < 10 ^ 40) : SmIB (.int i) := ⟨i, rfl, h⟩
theorem sp_leafB : ∀ args Q, S_leafB.sp args Q → ir_law_leaf_a91b S_draw S_one (endsOf args Q) (rho0 N_law_leaf_a91b args) := by
  rintro args Q ⟨b, dk, ls, yy, rfl, h, hl, q⟩
  have g : (10 : Int) ^ (19 : Int).toNat = 10 ^ 19 := rfl
  refine ⟨powOk (k := 4) (m := 19) (by decide) (by decide) (by decide), rfl, b + 7, dk, _, rfl, h, ⟨by decide, by decide⟩, fun r1 dk1 a0 a1 d1 => ?_⟩
  rw [g] at a1
  refine ⟨powOk (k := 4) (m := 20) (by decide) (by decide) (by decide), mulOk 64 68 (by omega) (by decide), powOk (k := 4) (m := 19) (by decide) (by decide) (by decide), rfl, b + 6, dk1, _, rfl, d1, ⟨by decide, by decide⟩, fun r2 dk2 b0 b1 d2 => ?_⟩
  rw [g] at b1
  have far : (r1 * 10 ^ (20 : Int).toNat + r2).natAbs < 10 ^ 40 := by
    have e : (10 : Int) ^ (20 : Int).toNat = 100000000000000000000 := rfl
    rw [e]
    omega
  obtain ⟨w, hw⟩ : ∃ w, w = r1 * 10 ^ (20 : Int).toNat + r2 := ⟨_, rfl⟩
  rw [← hw] at far
  refine ⟨powOk (k := 4) (m := 40) (by decide) (by decide) (by decide), powOk (k := 4) (m := 40) (by decide) (by decide) (by decide), rfl, b + 5, dk2, _, rfl, d2, ⟨Nat.succ_pos _, by show 4 < 2 ^ 60; decide⟩, fun v dk3 hv d3 => ?_⟩
  rw [← hw] at hv
  have vs : SmIB v := by
    have all : ∀ x ∈ [PyData.int w, .int (-w), .int (10 ^ (40 : Int).toNat - 1), .int (1 - 10 ^ (40 : Int).toNat)], SmIB x := by
      simp only [List.forall_mem_cons]
      exact ⟨smIB far, smIB (by omega), smIB (by decide), smIB (by decide), fun x hx => by cases hx⟩
    exact all v hv
  obtain ⟨vi, rfl, hvi⟩ := vs
  refine ⟨rfl, b + 4, dk3, _, rfl, d3, ⟨by decide, by decide⟩, fun r3 dk4 c0 c1 d4 => ?_⟩
  refine ⟨rfl, b + 3, dk4, _, rfl, d4, ⟨Nat.succ_pos _, by show 10 < 2 ^ 60; decide⟩, fun s dk5 hs d5 => ?_⟩
  have ss : SmIB s := by
    have all : ∀ x ∈ [PyData.int 0, .int 1, .int (-1), .int 2, .int 3, .int (-5), .int 6, .int 12, .int (r3 - 99), .int vi], SmIB x := by
      simp only [List.forall_mem_cons]
      exact ⟨smIB (by decide), smIB (by decide), smIB (by decide), smIB (by decide), smIB (by decide), smIB (by decide), smIB (by decide), smIB (by decide), smIB (by omega), smIB hvi, fun x hx => by cases hx⟩
    exact all s hs
  obtain ⟨si, rfl, hsi⟩ := ss
  refine ⟨rfl, b + 2, dk5, ls, rfl, d5, ⟨hl.1, by have := hl.2.1; omega⟩, fun l1 dk6 hl1 d6 => ?_⟩
  refine ⟨rfl, b + 1, dk6, ls, rfl, d6, ⟨hl.1, by have := hl.2.1; omega⟩, fun l2 dk7 hl2 d7 => ?_⟩
  refine ⟨rfl, b, dk7, _, rfl, d7, ⟨by show 0 < 3; decide, by show 3 < 2 ^ 60; decide⟩, fun z dk8 hz d8 => ?_⟩
  have fin : ∃ f : FT, z = f.pd ∧ f.leafB yy := by
    have all : ∀ x ∈ [PyData.int si, l1, l2], ∃ f : FT, x = f.pd ∧ f.leafB yy := by
      simp only [List.forall_mem_cons]
      exact ⟨⟨.int si, rfl, rfl, rfl, hsi, nofun⟩, lets_leafB hl hl1, lets_leafB hl hl2, fun x hx => by cases hx⟩
    exact all z hz
  obtain ⟨f, rfl, hf⟩ := fin
  exact q f dk8 hf d8
def FT.drawnB (yy : Bool) (room deep : Nat) (f : FT) : Prop := f.lev ≤ deep ∧ f.e ≤ room ∧ f.in40 ∧ (f.hasY = true → yy = true)
def S_formulaB (d : Nat) : FSpec := ⟨fun args Q => ∃ (b : Nat) (dk ls : List PD) (yy : Bool) (room deep : Nat), args = [.ls (some 0) dk, .d (.list ls), .d (.int room), .d (.int deep)] ∧ Dk (b + cst d) dk ∧ Lets yy ls ∧ 1 ≤ room ∧ room ≤ 1000 ∧ 1 ≤ deep ∧ deep ≤ d ∧
  ∀ (f : FT) dk', f.drawnB yy room deep → Dk b dk' → Q (.d f.pd) [.ls (some 0) dk']⟩
theorem S_formulaB0 : ∀ args Q, ¬ (S_formulaB 0).sp args Q := by
  rintro args Q ⟨b, dk, ls, yy, room, deep, _, _, _, _, _, h, h2, _⟩
  omega
theorem sp_formulaB (d : Nat) : ∀ args Q, (S_formulaB (d + 1)).sp args Q → ir_law_formula_6b2b S_draw S_leafB (S_formulaB d) (endsOf args Q) (rho0 N_law_formula_6b2b args) := by
  rintro args Q ⟨b, dk, ls, yy, room, deep, rfl, h, hl, r1, r2, p1, p2, q⟩
  have hc : cst (d + 1) = 2 * cst d + 3 := rfl
  have c8 := cst_ge d
  refine ⟨rfl, b + 2 * cst d + 2, dk, 9, rfl, h.mono (by omega), ⟨by decide, by decide⟩, fun way dk1 w0 w1 d1 => ?_⟩
  have leaf : ∀ {ρ : En} {D : DE}, D.rt = retOk [.ls (some 0) dk, .d (.list ls), .d (.int room), .d (.int deep)] Q → ρ = [some (.ls (some 0) dk1), some (.d (.list ls)), some (.d (.int room)), some (.d (.int deep)), some (.d (.int way)), none, none, none, none] →
      sRet (fCall S_leafB (aCons (.s 0) (aCons (.e (dVar 1)) aNil))) D ρ := by
    rintro ρ D hD rfl
    refine ⟨rfl, b, dk1, ls, yy, rfl, d1.mono (by omega), hl, fun f dk2 hf d2 => ?_⟩
    rw [hD]
    exact q f dk2 ⟨by rw [hf.1]; exact p1, by rw [hf.2.1]; exact r1, hf.2.2.1, hf.2.2.2⟩ d2
  refine ⟨fun _ => ⟨fun _ => leaf rfl rfl, nofun⟩, fun g1 => ⟨fun _ => ⟨fun _ => leaf rfl rfl, nofun⟩, fun g2 => ⟨fun g3 => ⟨rfl, _, rfl, rfl, fun _ => leaf rfl rfl, fun g4 => ?_⟩, fun g3 => ⟨nofun, fun _ => ?_⟩⟩⟩⟩
  all_goals
    have dp : 2 ≤ deep := by
      have : ¬ ((deep : Int) < 2) := of_decide_eq_false g1
      omega
    have wy : 2 ≤ way := by
      have : ¬ (way < 2) := of_decide_eq_false g2
      omega
    have key : 2 ≤ room ∨ (way ≠ 5 ∧ way ≠ 6 ∧ way ≠ 7) := by
      first
        | (left; have : ¬ ((room : Int) < 2) := of_decide_eq_false g3; omega)
        | (right
           have z : (PyData.eqv (.int 5) (.int way) || (PyData.eqv (.int 6) (.int way) || (PyData.eqv (.int 7) (.int way) || false))) = false := g4
           simp [PyData.eqv] at z
           omega)
    clear g1 g2 g3
    obtain ⟨dp', rfl⟩ : ∃ n, deep = n + 1 := ⟨deep - 1, by omega⟩
    have ed : ((dp' + 1 : Nat) : Int) - 1 = (dp' : Nat) := by omega
    refine ⟨fun g5 => ?_, fun g5 => ⟨fun g6 => ?_, fun g6 => ?_⟩⟩
    · have w5 : way < 5 := of_decide_eq_true g5
      -- a sum or a difference
      have word : ∃ x, atI [PyData.str "add", .str "sub", .str "add"] (way - 2) = some x ∧ (x = .str "add" ∨ x = .str "sub") := by
        obtain ⟨x, e1, e2⟩ := atI_some (xs := [PyData.str "add", .str "sub", .str "add"]) (i := way - 2) (by omega) (by show way - 2 < 3; omega)
        refine ⟨x, e1, ?_⟩
        have := List.mem_of_getElem? e2
        simp only [List.mem_cons, List.not_mem_nil, or_false] at this
        rcases this with h | h | h
        · exact .inl h
        · exact .inr h
        · exact .inl h
      obtain ⟨x, ex, hx⟩ := word
      refine ⟨x, ex, rfl, b + cst d, dk1, ls, yy, room, dp', by rw [← ed]; rfl, d1.mono (by omega), hl, r1, r2, by omega, by omega, fun f dk2 hf d2 => ?_⟩
      refine ⟨rfl, b, dk2, ls, yy, room, dp', by rw [← ed]; rfl, d2, hl, r1, r2, by omega, by omega, fun g dk3 hg d3 => ?_⟩
      obtain ⟨f1, f2, f3, f4⟩ := hf
      obtain ⟨g1, g2, g3, g4⟩ := hg
      rcases hx with rfl | rfl
      · exact q (.add f g) dk3 ⟨by simp only [FT.lev]; omega, by simp only [FT.e]; omega, ⟨f3, g3⟩, by simp only [FT.hasY, Bool.or_eq_true]; exact fun h => h.elim f4 g4⟩ d3
      · exact q (.sub f g) dk3 ⟨by simp only [FT.lev]; omega, by simp only [FT.e]; omega, ⟨f3, g3⟩, by simp only [FT.hasY, Bool.or_eq_true]; exact fun h => h.elim f4 g4⟩ d3
    · -- a power
      refine ⟨rfl, b + 2 * cst d + 1, dk1, _, rfl, d1.mono (by omega), ⟨by omega, ?_⟩, fun r dk2 h0 h1 d2 => ?_⟩
      · exact Nat.lt_of_lt_of_le (log2_lt (k := 20) (by omega) (by decide)) (by decide)
      obtain ⟨n, rfl⟩ : ∃ n : Nat, r = n := ⟨r.toNat, by omega⟩
      have em : (if (n : Int) > 1 then (n : Int) else 1) = ((max 1 n : Nat) : Int) := by split <;> omega
      have er : (room : Int) / (if (n : Int) > 1 then (n : Int) else 1) = ((room / max 1 n : Nat) : Int) := by rw [em, Int.natCast_ediv]
      refine ⟨⟨by rw [em]; omega, ?_⟩, rfl, b, dk2, ls, yy, room / max 1 n, dp', by rw [← ed, ← er]; rfl, d2.mono (by omega), hl, ?_, Nat.le_trans (Nat.div_le_self _ _) r2, by omega, by omega, fun f dk3 hf d3 => ?_⟩
      · rw [em, Int.natAbs_natCast]
        exact Nat.lt_of_lt_of_le (log2_lt (i := ((max 1 n : Nat) : Int)) (k := 20) (by omega) (by decide)) (by decide)
      · exact Nat.div_pos (by omega) (by omega)
      · obtain ⟨f1, f2, f3, f4⟩ := hf
        refine q (.pow f n) dk3 ⟨by simp only [FT.lev]; omega, ?_, f3, f4⟩ d3
        simp only [FT.e]
        exact Nat.le_trans (Nat.mul_le_mul_right _ f2) (Nat.div_mul_le_self _ _)
    · -- a product
      have w5 : ¬ way < 5 := of_decide_eq_false g5
      have w8 : ¬ way = 8 := of_decide_eq_false g6
      have rm : 2 ≤ room := by omega
      refine ⟨rfl, b + 2 * cst d + 1, dk1, _, rfl, d1.mono (by omega), ⟨by omega, ?_⟩, fun r dk2 h0 h1 d2 => ?_⟩
      · exact Nat.lt_of_lt_of_le (log2_lt (k := 20) (by omega) (by decide)) (by decide)
      obtain ⟨n, rfl⟩ : ∃ n : Nat, r = n := ⟨r.toNat, by omega⟩
      have e1 : 1 + (n : Int) = ((1 + n : Nat) : Int) := by omega
      have e2 : (room : Int) - (1 + (n : Int)) = ((room - (1 + n) : Nat) : Int) := by omega
      refine ⟨rfl, b + cst d, dk2, ls, yy, 1 + n, dp', by rw [← ed, ← e1]; rfl, d2.mono (by omega), hl, by omega, by omega, by omega, by omega, fun f dk3 hf d3 => ?_⟩
      refine ⟨rfl, b, dk3, ls, yy, room - (1 + n), dp', by rw [← ed, ← e2]; rfl, d3, hl, by omega, by omega, by omega, by omega, fun g dk4 hg d4 => ?_⟩
      obtain ⟨f1, f2, f3, f4⟩ := hf
      obtain ⟨g1, g2, g3, g4⟩ := hg
      exact q (.mul f g) dk4 ⟨by simp only [FT.lev]; omega, by simp only [FT.e]; omega, ⟨f3, g3⟩, by simp only [FT.hasY, Bool.or_eq_true]; exact fun h => h.elim f4 g4⟩ d4
theorem FT.in40.le : ∀ {f : FT}, f.in40 → f.le 140
  | int i, h => Nat.lt_of_lt_of_le h (by decide)
  | x, _ => trivial
  | y, _ => trivial
  | add _ _, h => ⟨in40.le h.1, in40.le h.2⟩
  | sub _ _, h => ⟨in40.le h.1, in40.le h.2⟩
  | mul _ _, h => ⟨in40.le h.1, in40.le h.2⟩
  | pow a _, h => in40.le (f := a) h
theorem FT.drawnB.drawn {yy : Bool} {room deep : Nat} {f : FT} (h : f.drawnB yy room deep) : f.drawn yy 140 room deep := ⟨h.1, h.2.1, h.2.2.1.le, h.2.2.2⟩
end DL
namespace DL
open PySem L2 PyProof.Rows
theorem fall_shift (x : Int) : ∀ n : Nat, fallI (x + 1) (n + 1) = (x + 1) * fallI x n
  | 0 => by simp [fallI]
  | n + 1 => by
    rw [fallI, fall_shift x n, fallI]
    have : ((n + 1 : Nat) : Int) = (n : Int) + 1 := by omega
    rw [this]
    grind
theorem fall_diff (x : Int) (n : Nat) : fallI (x + 1) (n + 1) - fallI x (n + 1) = ((n : Int) + 1) * fallI x n := by
  rw [fall_shift, fallI]
  grind
theorem fall_zero : ∀ n : Nat, fallI 0 (n + 1) = 0
  | 0 => by simp [fallI]
  | n + 1 => by rw [fallI, fall_zero n, Int.zero_mul]
theorem fall_self_pos (n : Nat) : 0 < fallI (n : Nat) n := by have := fallI_fact n 0; simpa using this
theorem fall_over : ∀ {i k : Nat}, i < k → fallI (i : Nat) k = 0
  | i, k + 1, h => by
    rw [fallI]
    by_cases e : i = k
    · subst e; rw [Int.sub_self, Int.mul_zero]
    · rw [fall_over (i := i) (k := k) (by omega), Int.zero_mul]
abbrev F2I := Int → Int → Int
def dX (f : F2I) : F2I := fun x y => f (x + 1) y - f x y
def dY (f : F2I) : F2I := fun x y => f x (y + 1) - f x y
def itX : Nat → F2I → F2I
  | 0, f => f
  | n + 1, f => dX (itX n f)
def itY : Nat → F2I → F2I
  | 0, f => f
  | n + 1, f => dY (itY n f)
def dd (i j : Nat) (f : F2I) : Int := itX i (itY j f) 0 0
def addF (f g : F2I) : F2I := fun x y => f x y + g x y
theorem itX_add (f g : F2I) : ∀ n, itX n (addF f g) = addF (itX n f) (itX n g)
  | 0 => rfl
  | n + 1 => by
    rw [itX, itX_add f g n, itX, itX]
    funext x y
    simp only [dX, addF]
    omega
theorem itY_add (f g : F2I) : ∀ n, itY n (addF f g) = addF (itY n f) (itY n g)
  | 0 => rfl
  | n + 1 => by
    rw [itY, itY_add f g n, itY, itY]
    funext x y
    simp only [dY, addF]
    omega
theorem dd_add (i j : Nat) (f g : F2I) : dd i j (addF f g) = dd i j f + dd i j g := by
  unfold dd
  rw [itY_add, itX_add]
  rfl
def trm (c : Int) (i j : Nat) : F2I := fun x y => c * fallI x i * fallI y j
theorem itX_trm (c : Int) (i j : Nat) : ∀ k, itX k (trm c i j) = trm (c * fallI (i : Nat) k) (i - k) j
  | 0 => by simp [itX, fallI]
  | k + 1 => by
    rw [itX, itX_trm c i j k]
    funext x y
    simp only [dX, trm, fallI]
    by_cases h : k < i
    · obtain ⟨m, rfl⟩ : ∃ m, i = k + 1 + m := ⟨i - k - 1, by omega⟩
      rw [show k + 1 + m - k = m + 1 by omega, show k + 1 + m - (k + 1) = m by omega]
      have d := fall_diff x m
      have e : (((k + 1 + m : Nat) : Int) - (k : Nat)) = (m : Int) + 1 := by omega
      rw [e]
      grind
    · rw [show i - k = 0 by omega, show i - (k + 1) = 0 by omega]
      have z : fallI (i : Nat) k * ((i : Nat) - (k : Nat) : Int) = 0 := by
        by_cases e : i = k
        · subst e; rw [Int.sub_self, Int.mul_zero]
        · rw [fall_over (by omega), Int.zero_mul]
      rw [z]
      simp [fallI]
theorem itY_trm (c : Int) (i j : Nat) : ∀ k, itY k (trm c i j) = trm (c * fallI (j : Nat) k) i (j - k)
  | 0 => by simp [itY, fallI]
  | k + 1 => by
    rw [itY, itY_trm c i j k]
    funext x y
    simp only [dY, trm, fallI]
    by_cases h : k < j
    · obtain ⟨m, rfl⟩ : ∃ m, j = k + 1 + m := ⟨j - k - 1, by omega⟩
      rw [show k + 1 + m - k = m + 1 by omega, show k + 1 + m - (k + 1) = m by omega]
      have d := fall_diff y m
      have e : (((k + 1 + m : Nat) : Int) - (k : Nat)) = (m : Int) + 1 := by omega
      rw [e]
      grind
    · rw [show j - k = 0 by omega, show j - (k + 1) = 0 by omega]
      have z : fallI (j : Nat) k * ((j : Nat) - (k : Nat) : Int) = 0 := by
        by_cases e : j = k
        · subst e; rw [Int.sub_self, Int.mul_zero]
        · rw [fall_over (by omega), Int.zero_mul]
      rw [z]
      simp [fallI]
theorem dd_trm (c : Int) (i j k l : Nat) : dd k l (trm c i j) = if k = i ∧ l = j then c * (fallI (i : Nat) i * fallI (j : Nat) j) else 0 := by
  unfold dd
  rw [itY_trm, itX_trm]
  simp only [trm]
  by_cases h1 : k = i
  · by_cases h2 : l = j
    · subst h1; subst h2
      rw [if_pos ⟨rfl, rfl⟩, Nat.sub_self, Nat.sub_self]
      simp only [fallI]
      grind
    · rw [if_neg fun z => h2 z.2]
      by_cases h3 : l < j
      · obtain ⟨m, e⟩ : ∃ m, j - l = m + 1 := ⟨j - l - 1, by omega⟩
        rw [e, fall_zero, Int.mul_zero]
      · rw [fall_over (i := j) (k := l) (by omega)]
        simp
  · rw [if_neg fun z => h1 z.1]
    by_cases h3 : k < i
    · obtain ⟨m, e⟩ : ∃ m, i - k = m + 1 := ⟨i - k - 1, by omega⟩
      rw [e, fall_zero]
      simp
    · rw [fall_over (i := i) (k := k) (by omega)]
      simp
inductive Pol (d : Nat) : F2I → Prop
  | trm (c : Int) (i j : Nat) : i + j ≤ d → Pol d (trm c i j)
  | add {f g : F2I} : Pol d f → Pol d g → Pol d (addF f g)
theorem Pol.mono {d e : Nat} {f : F2I} (h : Pol d f) (he : d ≤ e) : Pol e f := by
  induction h with
  | trm c i j h => exact .trm c i j (by omega)
  | add _ _ a b => exact .add a b
theorem Pol.mulX {d : Nat} {f : F2I} (h : Pol d f) (a : Int) : Pol (d + 1) (fun x y => f x y * (x - a)) := by
  induction h with
  | trm c i j h =>
    have e : (fun x y => DL.trm c i j x y * (x - a)) = addF (DL.trm c (i + 1) j) (DL.trm (c * ((i : Int) - a)) i j) := by
      funext x y
      simp only [DL.trm, addF, fallI]
      grind
    rw [e]
    exact .add (.trm _ _ _ (by omega)) (.trm _ _ _ (by omega))
  | @add f g _ _ p q =>
    have e : (fun x y => addF f g x y * (x - a)) = addF (fun x y => f x y * (x - a)) (fun x y => g x y * (x - a)) := by
      funext x y
      simp only [addF]
      grind
    rw [e]
    exact .add p q
theorem Pol.mulY {d : Nat} {f : F2I} (h : Pol d f) (a : Int) : Pol (d + 1) (fun x y => f x y * (y - a)) := by
  induction h with
  | trm c i j h =>
    have e : (fun x y => DL.trm c i j x y * (y - a)) = addF (DL.trm c i (j + 1)) (DL.trm (c * ((j : Int) - a)) i j) := by
      funext x y
      simp only [DL.trm, addF, fallI]
      grind
    rw [e]
    exact .add (.trm _ _ _ (by omega)) (.trm _ _ _ (by omega))
  | @add f g _ _ p q =>
    have e : (fun x y => addF f g x y * (y - a)) = addF (fun x y => f x y * (y - a)) (fun x y => g x y * (y - a)) := by
      funext x y
      simp only [addF]
      grind
    rw [e]
    exact .add p q
theorem Pol.mulC {d : Nat} {f : F2I} (h : Pol d f) (a : Int) : Pol d (fun x y => f x y * a) := by
  induction h with
  | trm c i j h =>
    have e : (fun x y => DL.trm c i j x y * a) = DL.trm (c * a) i j := by
      funext x y
      simp only [DL.trm]
      grind
    rw [e]
    exact .trm _ _ _ h
  | @add f g _ _ p q =>
    have e : (fun x y => addF f g x y * a) = addF (fun x y => f x y * a) (fun x y => g x y * a) := by
      funext x y
      simp only [addF]
      grind
    rw [e]
    exact .add p q
theorem Pol.mulFX {d : Nat} {f : F2I} (h : Pol d f) : ∀ n : Nat, Pol (d + n) (fun x y => f x y * fallI x n)
  | 0 => by
    have e : (fun x y => f x y * fallI x 0) = f := by funext x y; simp [fallI]
    rw [e]; exact h
  | n + 1 => by
    have e : (fun x y => f x y * fallI x (n + 1)) = fun x y => (f x y * fallI x n) * (x - (n : Nat)) := by funext x y; rw [fallI, Int.mul_assoc]
    rw [e]
    exact (Pol.mulFX h n).mulX _
theorem Pol.mulFY {d : Nat} {f : F2I} (h : Pol d f) : ∀ n : Nat, Pol (d + n) (fun x y => f x y * fallI y n)
  | 0 => by
    have e : (fun x y => f x y * fallI y 0) = f := by funext x y; simp [fallI]
    rw [e]; exact h
  | n + 1 => by
    have e : (fun x y => f x y * fallI y (n + 1)) = fun x y => (f x y * fallI y n) * (y - (n : Nat)) := by funext x y; rw [fallI, Int.mul_assoc]
    rw [e]
    exact (Pol.mulFY h n).mulY _
theorem Pol.mul {d e : Nat} {f g : F2I} (hf : Pol d f) (hg : Pol e g) : Pol (d + e) (fun x y => f x y * g x y) := by
  induction hg with
  | trm c i j h =>
    have q : (fun x y => f x y * DL.trm c i j x y) = fun x y => (f x y * c * fallI x i) * fallI y j := by
      funext x y
      simp only [DL.trm]
      grind
    rw [q]
    exact (((hf.mulC c).mulFX i).mulFY j).mono (by omega)
  | @add g1 g2 _ _ p q =>
    have w : (fun x y => f x y * addF g1 g2 x y) = addF (fun x y => f x y * g1 x y) (fun x y => f x y * g2 x y) := by
      funext x y
      simp only [addF]
      grind
    rw [w]
    exact .add p q
theorem Pol.const (c : Int) : Pol 0 (fun _ _ => c) := by
  have e : (fun _ _ => c : F2I) = DL.trm c 0 0 := by funext x y; simp [DL.trm, fallI]
  rw [e]; exact .trm _ _ _ (by decide)
theorem Pol.pow {d : Nat} {f : F2I} (h : Pol d f) : ∀ n : Nat, Pol (d * n) (fun x y => f x y ^ n)
  | 0 => by
    have e : (fun x y => f x y ^ 0) = fun _ _ => (1 : Int) := by funext x y; rw [Int.pow_zero]
    rw [e, Nat.mul_zero]; exact .const 1
  | n + 1 => by
    have e : (fun x y => f x y ^ (n + 1)) = fun x y => f x y ^ n * f x y := by funext x y; rw [Int.pow_succ]
    rw [e, Nat.mul_succ]
    exact (Pol.pow h n).mul h
def fac2 (i j : Nat) : Int := fallI (i : Nat) i * fallI (j : Nat) j
theorem fac2_pos (i j : Nat) : 0 < fac2 i j := Int.mul_pos (fall_self_pos i) (fall_self_pos j)
theorem Pol.dvd {d : Nat} {f : F2I} (h : Pol d f) (i j : Nat) : fac2 i j ∣ dd i j f := by
  induction h with
  | trm c a b _ =>
    rw [dd_trm]
    split
    · rename_i e; obtain ⟨rfl, rfl⟩ := e; exact ⟨c, by rw [Int.mul_comm]; rfl⟩
    · exact Int.dvd_zero _
  | add _ _ p q => rw [dd_add]; exact Int.dvd_add p q
theorem Pol.zero {d : Nat} {f : F2I} (h : Pol d f) {i j : Nat} (hd : d < i + j) : dd i j f = 0 := by
  induction h with
  | trm c a b hab =>
    rw [dd_trm, if_neg]
    rintro ⟨rfl, rfl⟩
    omega
  | add _ _ p q => rw [dd_add, p, q]; rfl
def cof (f : F2I) (i j : Nat) : Int := dd i j f / fac2 i j
theorem cof_add {d : Nat} {f g : F2I} (hf : Pol d f) (hg : Pol d g) (i j : Nat) : cof (addF f g) i j = cof f i j + cof g i j := by
  unfold cof
  rw [dd_add, Int.add_ediv_of_dvd_left (hf.dvd i j)]
theorem cof_trm (c : Int) (a b i j : Nat) : cof (trm c a b) i j = if i = a ∧ j = b then c else 0 := by
  unfold cof
  rw [dd_trm]
  split
  · rename_i e; obtain ⟨rfl, rfl⟩ := e
    exact Int.mul_ediv_cancel _ (Int.ne_of_gt (fac2_pos i j))
  · exact Int.zero_ediv _
def sumN : Nat → (Nat → Int) → Int
  | 0, _ => 0
  | n + 1, g => sumN n g + g n
theorem sumN_add (f g : Nat → Int) : ∀ n, sumN n (fun i => f i + g i) = sumN n f + sumN n g
  | 0 => rfl
  | n + 1 => by rw [sumN, sumN_add f g n, sumN, sumN]; omega
theorem sumN_zero {f : Nat → Int} : ∀ {n : Nat}, (∀ i, i < n → f i = 0) → sumN n f = 0
  | 0, _ => rfl
  | n + 1, h => by rw [sumN, sumN_zero fun i hi => h i (by omega), h n (by omega)]; rfl
theorem sumN_congr {f g : Nat → Int} : ∀ {n : Nat}, (∀ i, i < n → f i = g i) → sumN n f = sumN n g
  | 0, _ => rfl
  | n + 1, h => by rw [sumN, sumN, sumN_congr fun i hi => h i (by omega), h n (by omega)]
theorem sumN_one {f : Nat → Int} {k : Nat} : ∀ {n : Nat}, k < n → (∀ i, i ≠ k → f i = 0) → sumN n f = f k
  | n + 1, h, z => by
    rw [sumN]
    by_cases e : k = n
    · subst e; rw [sumN_zero fun i hi => z i (by omega), Int.zero_add]
    · rw [sumN_one (n := n) (by omega) z, z n (by omega), Int.add_zero]
theorem Pol.whole {d N : Nat} {f : F2I} (h : Pol d f) (hN : d < N) (x y : Int) : f x y = sumN N fun i => sumN N fun j => cof f i j * fallI x i * fallI y j := by
  induction h with
  | trm c a b hab =>
    rw [sumN_one (k := a) (by omega)]
    · rw [sumN_one (k := b) (by omega)]
      · rw [cof_trm, if_pos ⟨rfl, rfl⟩]; rfl
      · intro j hj; rw [cof_trm, if_neg fun z => hj z.2, Int.zero_mul, Int.zero_mul]
    · intro i hi
      exact sumN_zero fun j _ => by rw [cof_trm, if_neg fun z => hi z.1, Int.zero_mul, Int.zero_mul]
  | @add f g hf hg p q =>
    have e : (fun i => sumN N fun j => cof (addF f g) i j * fallI x i * fallI y j) = fun i => (sumN N fun j => cof f i j * fallI x i * fallI y j) + sumN N fun j => cof g i j * fallI x i * fallI y j := by
      funext i
      rw [← sumN_add]
      exact sumN_congr fun j _ => by rw [cof_add hf hg]; grind
    rw [e, sumN_add, ← p, ← q]
    rfl
end DL
namespace DL
open PySem L2 PyProof.Rows
end DL
namespace DL
open PySem L2 PyProof.Rows
end DL
namespace DL
open PySem L2 PyProof.Rows
abbrev T3 := Nat × Nat × Int
def rI (f : F2I) (i n : Nat) : List T3 := (List.range n).flatMap fun j => if dd i j f = 0 then [] else [(i, j, cof f i j)]
end DL
namespace DL
open PySem L2 PyProof.Rows
end DL
namespace DL
open PySem L2 PyProof.Rows
theorem nb {a b : Str} {p : Prop} (e : a = b) (h : (!decide (a = b)) = true) : p := by simp [e] at h
end DL
namespace DL
open PySem L2 PyProof.Rows
def FT.turn : FT → FT
  | int i => int i
  | x => y
  | y => x
  | add a b => add a.turn b.turn
  | sub a b => sub a.turn b.turn
  | mul a b => mul a.turn b.turn
  | pow a n => pow a.turn n
end DL
namespace DL
open PySem L2 PyProof.Rows
def FT.kids : FT → List FT
  | add a b | sub a b | mul a b => [a, b]
  | pow a _ => [a]
  | _ => []
def FT.isI : FT → Bool
  | int _ => true
  | _ => false
def FT.isL : FT → Bool
  | int i => decide ((if i < 0 then -i else i) < 10000000000000000000000000000000000000000)
  | x => true
  | y => true
  | _ => false
def FT.good1 : FT → Bool
  | int i => decide ((if i < 0 then -i else i) < 10000000000000000000000000000000000000000)
  | pow _ n => decide (((n : Nat) : Int) ≤ 16)
  | _ => true
def innerF (f : FT) : PD := if f.good1 = true then .tuple (f.kids.map FT.pd) else .none
def S_isint : FSpec := ⟨fun args Q => ∃ f : FT, args = [.d f.pd] ∧ Q (.d (.bool f.isI)) []⟩
abbrev N_is_integer : List Str := ["value"]
def ir_is_integer : TSt :=
  (sRet (fD (dAnd (dIsi "int" (.s 0)) (dNot (dIsi "bool" (.s 0))))))
theorem sp_isint : ∀ args Q, S_isint.sp args Q → ir_is_integer (endsOf args Q) (rho0 N_is_integer args) := by
  rintro args Q ⟨f, rfl, q⟩
  cases f with
  | int i => exact ⟨rfl, fun _ => ⟨rfl, q⟩, nofun⟩
  | x => exact ⟨rfl, nofun, fun _ => q⟩
  | y => exact ⟨rfl, nofun, fun _ => q⟩
  | add a b => exact ⟨rfl, nofun, fun _ => q⟩
  | sub a b => exact ⟨rfl, nofun, fun _ => q⟩
  | mul a b => exact ⟨rfl, nofun, fun _ => q⟩
  | pow a n => exact ⟨rfl, nofun, fun _ => q⟩
def S_isleaf : FSpec := ⟨fun args Q => ∃ f : FT, args = [.d f.pd] ∧ Q (.d (.bool f.isL)) []⟩
abbrev N_is_leaf : List Str := ["value"]
def ir_is_leaf (S_is_integer : FSpec) : TSt :=
  (sSeq (sIf (tVal (dFz (fCall S_is_integer (aCons (.e (dVar 0)) aNil)))) (sRet (fD (dBin cLt (.e (dBi bAbs (aCons (.s 0) aNil))) (.e (dC (.int 10000000000000000000000000000000000000000)))))) sNext)
    (sRet (fD (dAnd (dIsi "str" (.s 0)) (dBin (cIn false) (.s 0) (.e (dC (.tuple [.str "x", .str "y"]))))))))
theorem sp_isleaf : ∀ args Q, S_isleaf.sp args Q → ir_is_leaf S_isint (endsOf args Q) (rho0 N_is_leaf args) := by
  rintro args Q ⟨f, rfl, q⟩
  cases f with
  | int i => exact ⟨rfl, .int i, rfl, fun _ => q, nofun⟩
  | x => exact ⟨rfl, .x, rfl, nofun, fun _ => ⟨rfl, fun _ => ⟨rfl, _, rfl, rfl, q⟩, nofun⟩⟩
  | y => exact ⟨rfl, .y, rfl, nofun, fun _ => ⟨rfl, fun _ => ⟨rfl, _, rfl, rfl, q⟩, nofun⟩⟩
  | add a b => exact ⟨rfl, .add a b, rfl, nofun, fun _ => ⟨rfl, nofun, fun _ => q⟩⟩
  | sub a b => exact ⟨rfl, .sub a b, rfl, nofun, fun _ => ⟨rfl, nofun, fun _ => q⟩⟩
  | mul a b => exact ⟨rfl, .mul a b, rfl, nofun, fun _ => ⟨rfl, nofun, fun _ => q⟩⟩
  | pow a n => exact ⟨rfl, .pow a n, rfl, nofun, fun _ => ⟨rfl, nofun, fun _ => q⟩⟩
def S_inner : FSpec := ⟨fun args Q => ∃ f : FT, args = [.d f.pd] ∧ Q (.d (innerF f)) []⟩
abbrev N_inner : List Str := ["value"]
def ir_inner (S_is_leaf : FSpec) (S_is_integer : FSpec) : TSt :=
  (sSeq (sIf (tVal (dFz (fCall S_is_leaf (aCons (.e (dVar 0)) aNil)))) (sRet (fD (dTup aNil))) sNext)
    (sSeq (sIf (tOrD (tNotD (tVal (dIsi "tuple" (.s 0)))) (tOrD (tVal (dBin cNe (.e (dBi bLen (aCons (.s 0) aNil))) (.e (dC (.int 3))))) (tNotD (tVal (dIsi "str" (.e (dBin bIx (.s 0) (.e (dC (.int 0)))))))))) (sRet (fD (dC (.none)))) sNext)
    (sSeq (sIf (tVal (dBin (cIn false) (.e (dBin bIx (.s 0) (.e (dC (.int 0))))) (.e (dC (.tuple [.str "add", .str "sub", .str "mul"]))))) (sRet (fD (dSl (.s 0) (pSome (.e (dC (.int 1)))) pNone))) sNext)
    (sSeq (sIf (tAndD (tVal (dBin cEq (.e (dBin bIx (.s 0) (.e (dC (.int 0))))) (.e (dC (.str "pow"))))) (tAndD (tVal (dFz (fCall S_is_integer (aCons (.e (dBin bIx (.s 0) (.e (dC (.int 2))))) aNil)))) (tVal (dChain (fun i j => decide (i ≤ j)) (fun i j => decide (i ≤ j)) (.e (dC (.int 0))) (.e (dBin bIx (.s 0) (.e (dC (.int 2))))) (.e (dC (.int 16))))))) (sRet (fD (dSl (.s 0) (pSome (.e (dC (.int 1)))) (pSome (.e (dC (.int 2))))))) sNext)
    (sRet (fD (dC (.none))))))))
theorem sp_inner : ∀ args Q, S_inner.sp args Q → ir_inner S_isleaf S_isint (endsOf args Q) (rho0 N_inner args) := by
  rintro args Q ⟨f, rfl, q⟩
  cases f with
  | int i =>
    refine ⟨rfl, .int i, rfl, fun h => ?_, fun h => ⟨rfl, fun _ => ⟨fun _ => ?_, nofun⟩, nofun⟩⟩
    · have h : (FT.int i).good1 = true := h
      unfold innerF at q
      rw [if_pos h] at q
      exact q
    · have h : (FT.int i).good1 = false := h
      unfold innerF at q
      rw [if_neg (by rw [h]; exact Bool.false_ne_true)] at q
      exact q
  | x => exact ⟨rfl, .x, rfl, fun _ => q, nofun⟩
  | y => exact ⟨rfl, .y, rfl, fun _ => q, nofun⟩
  | add a b => exact ⟨rfl, .add a b, rfl, nofun, fun _ => ⟨rfl, nofun, fun _ => ⟨nofun, fun _ => ⟨_, rfl, rfl, nofun, fun _ => ⟨_, rfl, rfl, _, rfl, rfl, fun _ => q, nofun⟩⟩⟩⟩⟩
  | sub a b => exact ⟨rfl, .sub a b, rfl, nofun, fun _ => ⟨rfl, nofun, fun _ => ⟨nofun, fun _ => ⟨_, rfl, rfl, nofun, fun _ => ⟨_, rfl, rfl, _, rfl, rfl, fun _ => q, nofun⟩⟩⟩⟩⟩
  | mul a b => exact ⟨rfl, .mul a b, rfl, nofun, fun _ => ⟨rfl, nofun, fun _ => ⟨nofun, fun _ => ⟨_, rfl, rfl, nofun, fun _ => ⟨_, rfl, rfl, _, rfl, rfl, fun _ => q, nofun⟩⟩⟩⟩⟩
  | pow a n =>
    have n0 : (0 : Int) ≤ ((n : Nat) : Int) := by omega
    refine ⟨rfl, .pow a n, rfl, nofun, fun _ => ⟨rfl, nofun, fun _ => ⟨nofun, fun _ => ⟨_, rfl, rfl, nofun, fun _ => ⟨_, rfl, rfl, _, rfl, rfl, nofun, fun _ => ⟨_, rfl, fun _ => ⟨_, rfl, rfl, .int ((n : Nat) : Int), rfl, fun _ => ⟨_, rfl, fun _ => ⟨fun h => ?_, fun h => ?_⟩, fun h => ?_⟩, nofun⟩, nofun⟩⟩⟩⟩⟩⟩
    · have h : (FT.pow a n).good1 = true := h
      unfold innerF at q
      rw [if_pos h] at q
      exact q
    · have h : (FT.pow a n).good1 = false := h
      unfold innerF at q
      rw [if_neg (by rw [h]; exact Bool.false_ne_true)] at q
      exact q
    · exact absurd n0 (of_decide_eq_false h)
def FT.wf : FT → Prop
  | int i => i.natAbs < 10 ^ 40
  | add a b | sub a b | mul a b => a.wf ∧ b.wf
  | pow a n => a.wf ∧ n ≤ 16
  | _ => True
theorem FT.wf.good {f : FT} (h : f.wf) : f.good1 = true := by
  cases f with
  | int i =>
    have h : i.natAbs < 10 ^ 40 := h
    show decide ((if i < 0 then -i else i) < 10000000000000000000000000000000000000000) = true
    rw [decide_eq_true_iff]
    split <;> omega
  | pow a n => exact decide_eq_true (by have h : n ≤ 16 := h.2; omega)
  | _ => rfl
theorem FT.wf.kid {f : FT} (h : f.wf) : ∀ k ∈ f.kids, k.wf ∧ k.lev + 1 ≤ f.lev := by
  cases f with
  | int i => exact fun k hk => by cases hk
  | x => exact fun k hk => by cases hk
  | y => exact fun k hk => by cases hk
  | pow a n =>
    intro k hk
    simp only [kids, List.mem_cons, List.not_mem_nil, or_false] at hk
    subst hk
    exact ⟨h.1, Nat.le_refl _⟩
  | add a b | sub a b | mul a b =>
    intro k hk
    simp only [kids, List.mem_cons, List.not_mem_nil, or_false] at hk
    rcases hk with rfl | rfl
    · exact ⟨h.1, by simp only [lev]; omega⟩
    · exact ⟨h.2, by simp only [lev]; omega⟩
theorem FT.wf.of {f : FT} (h : f.in40) (he : f.e ≤ 16) : f.wf := by
  induction f with
  | int i => exact h
  | x => trivial
  | y => trivial
  | add a b ia ib => simp only [e] at he; exact ⟨ia h.1 (by omega), ib h.2 (by omega)⟩
  | sub a b ia ib => simp only [e] at he; exact ⟨ia h.1 (by omega), ib h.2 (by omega)⟩
  | mul a b ia ib => simp only [e] at he; exact ⟨ia h.1 (by omega), ib h.2 (by omega)⟩
  | pow a n ia =>
    simp only [e] at he
    have e1 : a.e ≤ a.e * max 1 n := Nat.le_mul_of_pos_right _ (by omega)
    have e2 : max 1 n ≤ a.e * max 1 n := Nat.le_mul_of_pos_left _ a.e_pos
    exact ⟨ia h (by omega), by omega⟩
end DL
namespace DL
open PySem L2 PyProof.Rows
def dg (c : Nat) : Bool := decide (48 ≤ c) && decide (c ≤ 57)
theorem dg_iff {c : Nat} : dg c = true ↔ 48 ≤ c ∧ c ≤ 57 := by unfold dg; simp
def dgL (t : List Nat) (i : Nat) : List Nat := (t.drop i).takeWhile dg
def dgN (t : List Nat) (i : Nat) : Nat := (dgL t i).length
theorem dg_all (t : List Nat) (i : Nat) : NumText.AllDigits (dgL t i) := fun c hc => dg_iff.mp (List.all_eq_true.mp List.all_takeWhile c hc)
def figM (t : List Nat) (one : Bool) (i : Nat) : Option (Nat × Nat) := match t[i]? with
  | some c => if dg c = true ∧ (one = true → c ≠ 48) then (if c = 48 then some (i + 1, 0) else some (i + dgN t i, NumText.digitsVal (dgL t i))) else none
  | none => none
def figE (neg : Bool) (e : Nat) : Option (Nat × Nat) → Except Nat (FT × Nat)
  | some (b, v) => .ok (.int (if neg then 0 - (v : Int) else v), b)
  | none => .error e
def leafM (t : List Nat) (i : Nat) : Except Nat (FT × Nat) :=
  if t[i]? = some 120 then .ok (.x, i + 1) else if t[i]? = some 121 then .ok (.y, i + 1)
  else if t[i]? = some 45 then figE true (i + 1) (figM t true (i + 1))
  else figE false i (figM t false i)
inductive W3 where
  | add
  | sub
  | mul
def W3.ft : W3 → FT → FT → FT
  | .add, a, b => .add a b
  | .sub, a, b => .sub a b
  | .mul, a, b => .mul a b
def W3.str : W3 → Str
  | .add => "add"
  | .sub => "sub"
  | .mul => "mul"
theorem W3.pd (w : W3) (a b : FT) : (w.ft a b).pd = .tuple [.str w.str, a.pd, b.pd] := by cases w <;> rfl
def w3 (c : Nat) : Option W3 := if c = 43 then some .add else if c = 45 then some .sub else if c = 42 then some .mul else none
abbrev Stk := List (Option (W3 × FT))
def upM (t : List Nat) : Stk → FT → Nat → Except Nat (Stk × FT × Nat)
  | [], v, i => .ok ([], v, i)
  | some (w, a) :: r, v, i => if t[i]? = some 41 then upM t r (w.ft a v) (i + 1) else .error i
  | none :: r, v, i => match t[i]? with
    | none => .error i
    | some c => match w3 c with
      | some w => .ok (some (w, v) :: r, v, i + 1)
      | none => if c = 94 then (match figM t false (i + 1) with
          | none => .error (i + 1)
          | some (b, n) => if t[b]? = some 41 then upM t r (.pow v n) (b + 1) else .error b)
        else .error i
def StOk (m : Nat) (s : Stk) : Prop := s.length ≤ 5000 ∧ ∀ w a, some (w, a) ∈ s → a.lev ≤ m
def UpOk (t : List Nat) (m : Nat) : Stk → FT → Nat → Prop
  | [], v, _ => v.lev ≤ m
  | some (w, a) :: r, v, i => v.lev ≤ m ∧ (t[i]? = some 41 → UpOk t m r (w.ft a v) (i + 1))
  | none :: r, v, i => v.lev ≤ m ∧ ∀ b n, t[i]? = some 94 → figM t false (i + 1) = some (b, n) → t[b]? = some 41 → UpOk t m r (.pow v n) (b + 1)
inductive Reads (t : List Nat) (m : Nat) : Stk → Nat → Except Nat (FT × Nat) → Prop where
  | push {s : Stk} {i : Nat} {r : Except Nat (FT × Nat)} : t[i]? = some 40 → StOk m (none :: s) → Reads t m (none :: s) (i + 1) r → Reads t m s i r
  | bad {s : Stk} {i e : Nat} : t[i]? ≠ some 40 → leafM t i = .error e → Reads t m s i (.error e)
  | badUp {s : Stk} {i j e : Nat} {v : FT} : t[i]? ≠ some 40 → leafM t i = .ok (v, j) → StOk m s → UpOk t m s v j → upM t s v j = .error e → Reads t m s i (.error e)
  | done {s : Stk} {i j k : Nat} {v w : FT} : t[i]? ≠ some 40 → leafM t i = .ok (v, j) → StOk m s → UpOk t m s v j → upM t s v j = .ok ([], w, k) → Reads t m s i (.ok (w, k))
  | more {s s' : Stk} {i j k : Nat} {v w : FT} {r : Except Nat (FT × Nat)} : t[i]? ≠ some 40 → leafM t i = .ok (v, j) → StOk m s → UpOk t m s v j → upM t s v j = .ok (s', w, k) → s' ≠ [] → StOk m s' → Reads t m s' k r → Reads t m s i r
theorem dgN_le (t : List Nat) (i : Nat) : i + dgN t i ≤ max i t.length := by
  unfold dgN dgL
  have := List.takeWhile_sublist dg (l := t.drop i) |>.length_le
  rw [List.length_drop] at this
  omega
theorem dgN_pos {t : List Nat} {i c : Nat} (h : t[i]? = some c) (hc : dg c = true) : 0 < dgN t i := by
  obtain ⟨hi, e⟩ := List.getElem?_eq_some_iff.mp h
  unfold dgN dgL
  rw [List.drop_eq_getElem_cons hi, e, List.takeWhile_cons_of_pos hc]
  exact Nat.succ_pos _
theorem figM_le {t : List Nat} {one : Bool} {i b v : Nat} (h : figM t one i = some (b, v)) : i < b ∧ b ≤ t.length := by
  unfold figM at h
  cases e : t[i]? with
  | none => rw [e] at h; cases h
  | some c =>
    rw [e] at h
    have hi := (List.getElem?_eq_some_iff.mp e).1
    dsimp only at h
    split at h
    · rename_i hc
      split at h
      · cases h; omega
      · cases h
        have := dgN_pos e hc.1
        have := dgN_le t i
        omega
    · cases h
theorem leafM_le {t : List Nat} {i j : Nat} {v : FT} (h : leafM t i = .ok (v, j)) : i < j ∧ j ≤ t.length := by
  unfold leafM at h
  have at_ : ∀ c, t[i]? = some c → i < t.length := fun c e => (List.getElem?_eq_some_iff.mp e).1
  split at h
  · rename_i e; cases h; have := at_ _ e; omega
  · split at h
    · rename_i e; cases h; have := at_ _ e; omega
    · split at h
      · cases hf : figM t true (i + 1) with
        | none => rw [hf] at h; cases h
        | some p =>
          obtain ⟨b, n⟩ := p
          rw [hf] at h
          cases h
          have := figM_le hf
          omega
      · cases hf : figM t false i with
        | none => rw [hf] at h; cases h
        | some p =>
          obtain ⟨b, n⟩ := p
          rw [hf] at h
          cases h
          exact figM_le hf
theorem upM_le {t : List Nat} : ∀ {s s' : Stk} {v w : FT} {i j : Nat}, i ≤ t.length → upM t s v i = .ok (s', w, j) → i ≤ j ∧ j ≤ t.length
  | [], _, _, _, i, j, hi, h => by cases h; omega
  | some (w, a) :: r, s', v, w', i, j, hi, h => by
    unfold upM at h
    split at h
    · rename_i e
      have := (List.getElem?_eq_some_iff.mp e).1
      have := upM_le (show i + 1 ≤ t.length by omega) h
      omega
    · cases h
  | none :: r, s', v, w', i, j, hi, h => by
    unfold upM at h
    cases e : t[i]? with
    | none => rw [e] at h; cases h
    | some c =>
      rw [e] at h
      have := (List.getElem?_eq_some_iff.mp e).1
      dsimp only at h
      split at h
      · cases h; omega
      · split at h
        · split at h
          · cases h
          · rename_i b n hf
            have := figM_le hf
            split at h
            · rename_i e2
              have := (List.getElem?_eq_some_iff.mp e2).1
              have := upM_le (show b + 1 ≤ t.length by omega) h
              omega
            · cases h
        · cases h
end DL
namespace DL
open PySem L2 PyProof.Rows
def rdr (p : Option Nat) (C : Addr) (z : Str) (i : Nat) : Lc := .ob p C [("text", .str z), ("at", .int (i : Nat))]
def sg (z : Str) (i : Nat) : Str := ⟨(((cl z).drop i).take 1).toArray⟩
def o1 (c : Nat) : Str := ⟨#[c]⟩
theorem sg_some {z : Str} {i c : Nat} (h : (cl z)[i]? = some c) : sg z i = o1 c := by
  obtain ⟨hi, e⟩ := List.getElem?_eq_some_iff.mp h
  unfold sg o1
  rw [List.drop_eq_getElem_cons hi, e]; rfl
theorem sg_none {z : Str} {i : Nat} (h : (cl z)[i]? = none) : sg z i = "" := by
  unfold sg
  rw [List.drop_eq_nil_of_le (List.getElem?_eq_none_iff.mp h)]; rfl
theorem cut_sg {z : Str} {i : Nat} (h : i ≤ z.length) : cutS z (some ((i : Nat) : Int)) (some (((i : Nat) : Int) + 1)) = sg z i := by
  have e : ((i : Nat) : Int) + 1 = ((i + 1 : Nat) : Int) := rfl
  unfold cutS sg
  rw [e, HT.sIx_nat, HT.sIx_nat, Nat.min_eq_left h]
  have h2 : ((cl z).drop i).take (min (i + 1) z.length - i) = ((cl z).drop i).take 1 := by
    rcases Nat.lt_or_ge i z.length with q | q
    · rw [Nat.min_eq_left (by omega), show i + 1 - i = 1 by omega]
    · rw [List.drop_eq_nil_of_le (by rw [cl_len]; exact q)]; simp
  show (⟨(((cl z).drop i).take (min (i + 1) z.length - i)).toArray⟩ : Str) = _
  rw [h2]
theorem o1_eq {c d : Nat} : o1 c = o1 d ↔ c = d := by
  unfold o1
  constructor
  · intro h
    have := congrArg (fun s : Str => s.cps.toList) h
    simpa using this
  · rintro rfl; rfl
theorem o1_ne (c : Nat) : o1 c ≠ "" := by
  intro h
  have := congrArg (fun s : Str => s.cps.toList.length) h
  have e : (("" : Str).cps.toList.length) = 0 := by decide
  rw [e] at this
  simp [o1] at this
theorem lit : ("(" : Str) = o1 40 ∧ (")" : Str) = o1 41 ∧ ("*" : Str) = o1 42 ∧ ("+" : Str) = o1 43 ∧ ("-" : Str) = o1 45 ∧ ("0" : Str) = o1 48 ∧ ("^" : Str) = o1 94 ∧ ("x" : Str) = o1 120 ∧ ("y" : Str) = o1 121 := by decide
theorem occ_in (b : Str) (c : Nat) : (!(Builtin.Str.occurrences b (o1 c) 0 b.length 1).isEmpty) = decide (c ∈ cl b) := by
  rw [Bool.eq_iff_iff, occ_iff, decide_eq_true_iff]
  constructor
  · rintro ⟨A, B, h⟩
    rw [h]
    exact List.mem_append_right _ (List.mem_append_left _ (by show c ∈ [c]; exact List.mem_singleton.mpr rfl))
  · intro h
    obtain ⟨A, B, h⟩ := List.append_of_mem h
    exact ⟨A, B, h⟩
def SgnOk (s : PD) (P : Nat → Bool) : Prop := ∀ (c : Nat) (k : PD → Prop), k (.bool (!P c)) → cNiU (.str (o1 c)) s k
theorem sgn_str (b : Str) : SgnOk (.str b) fun c => decide (c ∈ cl b) := fun c k h => by
  show k (.bool (!(!(Builtin.Str.occurrences b (o1 c) 0 b.length 1).isEmpty)))
  rw [occ_in]
  exact h
theorem SgnOk.congr {s : PD} {P R : Nat → Bool} (h : SgnOk s P) (e : ∀ c, P c = R c) : SgnOk s R := fun c k hk => h c k (by rw [e c]; exact hk)
def FP (one : Bool) (c : Nat) : Bool := dg c && (!one || decide (c ≠ 48))
theorem cl_fig : cl "0123456789" = [48, 49, 50, 51, 52, 53, 54, 55, 56, 57] ∧ cl (cutS "0123456789" (some 1) none) = [49, 50, 51, 52, 53, 54, 55, 56, 57] := by decide +kernel
theorem sgn_fig : SgnOk (.str "0123456789") (FP false) := (sgn_str _).congr fun c => by
  rw [cl_fig.1, Bool.eq_iff_iff, decide_eq_true_iff]
  unfold FP dg
  simp
  omega
theorem sgn_fig1 : SgnOk (.str (cutS "0123456789" (some 1) none)) (FP true) := (sgn_str _).congr fun c => by
  rw [cl_fig.2, Bool.eq_iff_iff, decide_eq_true_iff]
  unfold FP dg
  simp
  omega
theorem sgn_one (d : Nat) : SgnOk (.str (o1 d)) fun c => decide (c = d) := (sgn_str _).congr fun c => by
  show decide (c ∈ [d]) = _
  rw [Bool.eq_iff_iff, decide_eq_true_iff, decide_eq_true_iff, List.mem_singleton]
theorem eqv_o1 (c d : Nat) : PyData.eqv (.str (o1 c)) (.str (o1 d)) = decide (c = d) := by
  simp only [PyData.eqv]
  rw [Bool.eq_iff_iff, decide_eq_true_iff]
  simp only [beq_iff_eq, decide_eq_true_eq]
  exact o1_eq
theorem sgn_ops : SgnOk (.list [.str "+", .str "-", .str "*", .str "^"]) fun c => (w3 c).isSome || decide (c = 94) := fun c k h => by
  obtain ⟨_, _, l3, l4, l5, _, l7, _⟩ := lit
  refine ⟨rfl, _, rfl, rfl, ?_⟩
  have e : ([PyData.str "+", .str "-", .str "*", .str "^"].any fun z => PyData.eqv z (.str (o1 c))) = ((w3 c).isSome || decide (c = 94)) := by
    rw [l3, l4, l5, l7]
    simp only [List.any_cons, List.any_nil, eqv_o1, Bool.or_false]
    unfold w3
    rw [Bool.eq_iff_iff]
    by_cases h1 : c = 43
    · subst h1; decide
    · by_cases h2 : c = 45
      · subst h2; decide
      · by_cases h3 : c = 42
        · subst h3; decide
        · simp [h1, h2, h3, Ne.symm h1, Ne.symm h2, Ne.symm h3, eq_comm]
  show k (.bool (!([PyData.str "+", .str "-", .str "*", .str "^"].any fun z => PyData.eqv z (.str (o1 c)))))
  rw [e]
  exact h
theorem sgn_let : SgnOk (.tuple [.str "x", .str "y"]) fun c => decide (c = 120) || decide (c = 121) := fun c k h => by
  obtain ⟨_, _, _, _, _, _, _, l8, l9⟩ := lit
  refine ⟨rfl, _, rfl, rfl, ?_⟩
  have e : ([PyData.str "x", .str "y"].any fun z => PyData.eqv z (.str (o1 c))) = (decide (c = 120) || decide (c = 121)) := by
    rw [l8, l9]
    simp only [List.any_cons, List.any_nil, eqv_o1, Bool.or_false]
    by_cases h1 : c = 120
    · subst h1; decide
    · by_cases h2 : c = 121
      · subst h2; decide
      · simp [h1, h2, Ne.symm h1, Ne.symm h2]
  show k (.bool (!([PyData.str "x", .str "y"].any fun z => PyData.eqv z (.str (o1 c)))))
  rw [e]
  exact h
def S_rinit (C : Addr) : FSpec := ⟨fun args Q => ∃ z : Str, args = [.ob (some 0) C [], .d (.str z)] ∧ Q (.d .none) [rdr (some 0) C z 0]⟩
abbrev N_m_Reader_init : List Str := ["self", "text"]
def ir_m_Reader_init (C_Reader : Addr) : TSt :=
  (sSeq (sSetF C_Reader 0 "text" (dVar 1))
    (sSetF C_Reader 0 "at" (dC (.int 0))))
theorem sp_rinit (C : Addr) : ∀ args Q, (S_rinit C).sp args Q → ir_m_Reader_init C (endsOf args Q) (rho0 N_m_Reader_init args) := by
  rintro args Q ⟨z, rfl, q⟩
  exact ⟨rfl, by decide, rfl, (by show (1 : Nat) < 1000; decide), q⟩
def S_sgat (C : Addr) : FSpec := ⟨fun args Q => ∃ (z : Str) (i : Nat), args = [rdr (some 0) C z i] ∧ i ≤ z.length ∧ z.length ≤ 16777216 ∧ Q (.d (.str (sg z i))) [rdr (some 0) C z i]⟩
abbrev N_sign_at : List Str := ["reader"]
def ir_sign_at (C_Reader : Addr) : TSt :=
  (sRet (fD (dSl (.e (dFldS C_Reader 0 "text")) (pSome (.e (dFldS C_Reader 0 "at"))) (pSome (.e (dBin bAdd (.e (dFldS C_Reader 0 "at")) (.e (dC (.int 1)))))))))
theorem sp_sgat (C : Addr) : ∀ args Q, (S_sgat C).sp args Q → ir_sign_at C (endsOf args Q) (rho0 N_sign_at args) := by
  rintro args Q ⟨z, i, rfl, hi, hz, q⟩
  refine ⟨rfl, _, rfl, rfl, _, rfl, rfl, _, rfl, by rw [sizeLine_eq]; exact hz, ?_⟩
  rw [cut_sg hi]
  exact q
def S_takeX (C CB : Addr) : XSpec := ⟨fun args Q E => ∃ (z : Str) (i : Nat) (s : PD) (P : Nat → Bool), args = [rdr (some 0) C z i, .d s] ∧ SgnOk s P ∧ (i ≤ z.length ∧ z.length ≤ 16777216) ∧
  (∀ c, (cl z)[i]? = some c → P c = true → Q (.d (.str (o1 c))) [rdr (some 0) C z (i + 1)]) ∧ ((∀ c, (cl z)[i]? = some c → P c = false) → E (CB, [(.str "at", .int (i : Nat))]) [rdr (some 0) C z i])⟩
abbrev N_take_e : List Str := ["reader", "signs", "sign"]
def ir_take_e (C_Reader : Addr) (C_BadText : Addr) (S_sign_at : FSpec) (u : Xd → En → Prop) : TSt :=
  (sSeq (sAsg 2 (fCall S_sign_at (aCons (.s 0) aNil)))
    (sSeq (sIf (tOrD (tVal (dBin cEq (.s 2) (.e (dC (.str ""))))) (tVal (dBin cNiU (.s 2) (.s 1)))) (sRaise C_BadText ["at"] u (aCons (.e (dFldS C_Reader 0 "at")) aNil)) sNext)
    (sSeq (sSetF C_Reader 0 "at" (dBin bAdd (.e (dFldS C_Reader 0 "at")) (.e (dC (.int 1)))))
    (sRetV 2))))
theorem sp_takeX (C CB : Addr) : ∀ args Q E, (S_takeX C CB).sp args Q E → ir_take_e C CB (S_sgat C) (endsX args E) (endsOf args Q) (rho0 N_take_e args) := by
  rintro args Q E ⟨z, i, s, P, rfl, hs, ⟨hi, hz⟩, q, qe⟩
  refine ⟨rfl, z, i, rfl, hi, hz, ?_⟩
  cases e : (cl z)[i]? with
  | none =>
    rw [sg_none e]
    refine ⟨fun _ => ⟨fun _ => ⟨rfl, _, rfl, rfl, qe (by rw [e]; nofun)⟩, nofun⟩, fun h => ?_⟩
    have h : decide (("" : Str) = "") = false := h
    rw [decide_eq_true rfl] at h; cases h
  | some c =>
    rw [sg_some e]
    refine ⟨fun h => ?_, fun _ => ?_⟩
    · exact absurd (of_decide_eq_true h) (o1_ne c)
    · refine hs c _ ⟨fun h => ?_, fun h => ?_⟩
      · have h : P c = false := by simpa using h
        exact ⟨rfl, _, rfl, rfl, qe fun d hd => by rw [e] at hd; cases hd; exact h⟩
      · have h : P c = true := by simpa using h
        exact ⟨rfl, _, rfl, rfl, (by show (2 : Nat) < 1000; decide), q c e h⟩
theorem tw_step {α : Type} {p : α → Bool} : ∀ (l : List α) (k : Nat), k ≤ (l.takeWhile p).length → (k < (l.takeWhile p).length ↔ l[k]?.any p = true)
  | [], k, h => by
    have h : k ≤ 0 := h
    simp
  | a :: l, k, h => by
    cases e : p a with
    | true =>
      rw [List.takeWhile_cons_of_pos e] at h ⊢
      cases k with
      | zero => simp [e]
      | succ k =>
        rw [List.length_cons] at h ⊢
        rw [List.getElem?_cons_succ, ← tw_step l k (by omega)]
        omega
    | false =>
      rw [List.takeWhile_cons_of_neg (by rw [e]; exact Bool.false_ne_true)] at h ⊢
      have h : k ≤ 0 := h
      obtain rfl : k = 0 := by omega
      simp [e]
theorem dgN_step {t : List Nat} {i j : Nat} (h1 : i ≤ j) (h2 : j ≤ i + dgN t i) : j < i + dgN t i ↔ t[j]?.any dg = true := by
  have := tw_step (p := dg) (t.drop i) (j - i) (by show _ ≤ dgN t i; omega)
  rw [List.getElem?_drop, show i + (j - i) = j by omega] at this
  rw [← this]
  show _ ↔ j - i < dgN t i
  omega
theorem dgL_take (t : List Nat) (i : Nat) : (t.drop i).take (dgN t i) = dgL t i := by
  unfold dgN dgL
  exact (List.prefix_iff_eq_take.mp (List.takeWhile_prefix dg)).symm
theorem cut_run {z : Str} {i b : Nat} (h1 : i ≤ b) (h2 : b ≤ z.length) : (cutS z (some ((i : Nat) : Int)) (some ((b : Nat) : Int))).cps.toList = ((cl z).drop i).take (b - i) := by
  unfold cutS
  rw [HT.sIx_nat, HT.sIx_nat, Nat.min_eq_left (show i ≤ z.length by omega), Nat.min_eq_left h2]; rfl
def atOf (ρ : En) : Nat := match (ρ[0]? : Option (Option Lc)) with
  | some (some (Lc.ob _ _ [_, (_, PyData.int a)])) => a.toNat
  | _ => 0
def D640 (t : List Nat) : Prop := ∀ i, dgN t i ≤ 4000
def S_figX (C CB : Addr) : XSpec := ⟨fun args Q E => ∃ (z : Str) (i : Nat) (s : PD) (one : Bool), args = [rdr (some 0) C z i, .d s] ∧ SgnOk s (FP one) ∧ (i ≤ z.length ∧ z.length ≤ 16777216) ∧ D640 (cl z) ∧
  (∀ b v, figM (cl z) one i = some (b, v) → Q (.d (.int (v : Nat))) [rdr (some 0) C z b]) ∧ (figM (cl z) one i = none → E (CB, [(.str "at", .int (i : Nat))]) [rdr (some 0) C z i])⟩
abbrev N_figures_e : List Str := ["reader", "signs", "begin"]
def ir_figures_e (C_Reader : Addr) (S_take_e : XSpec) (S_sign_at : FSpec) (u : Xd → En → Prop) : TSt :=
  (sSeq (sAsg 2 (fD (dFldS C_Reader 0 "at")))
    (sSeq (sIf (tVal (dBin cNe (.e (dFz (fCallX S_take_e u (aCons (.s 0) (aCons (.e (dVar 1)) aNil))))) (.e (dC (.str "0"))))) (sWhile (tAndD (tVal (dBin cNe (.e (dFz (fCall S_sign_at (aCons (.s 0) aNil)))) (.e (dC (.str ""))))) (tVal (dBin (cInS false) (.e (dFz (fCall S_sign_at (aCons (.s 0) aNil)))) (.e (dC (.str "0123456789")))))) (sSetF C_Reader 0 "at" (dBin bAdd (.e (dFldS C_Reader 0 "at")) (.e (dC (.int 1)))))) sNext)
    (sRet (fD (dBi bIntL (aCons (.e (dSl (.e (dFldS C_Reader 0 "text")) (pSome (.s 2)) (pSome (.e (dFldS C_Reader 0 "at"))))) aNil))))))
theorem fig_some {t : List Nat} {one : Bool} {i c : Nat} (h : t[i]? = some c) (hp : FP one c = true) : figM t one i = some (if c = 48 then (i + 1, 0) else (i + dgN t i, NumText.digitsVal (dgL t i))) := by
  unfold FP at hp
  rw [Bool.and_eq_true] at hp
  unfold figM
  rw [h]
  have : dg c = true ∧ (one = true → c ≠ 48) := ⟨hp.1, fun o => by rw [o] at hp; simpa using hp.2⟩
  simp only [if_pos this]
  split <;> rfl
theorem fig_none {t : List Nat} {one : Bool} {i : Nat} (h : ∀ c, t[i]? = some c → FP one c = false) : figM t one i = none := by
  unfold figM
  cases e : t[i]? with
  | none => rfl
  | some c =>
    have hp := h c e
    unfold FP at hp
    have : ¬ (dg c = true ∧ (one = true → c ≠ 48)) := fun ⟨h1, h2⟩ => by
      rw [h1, Bool.true_and] at hp
      cases one with
      | false => simp at hp
      | true => have := h2 rfl; simp [this] at hp
    simp only [if_neg this]
theorem sp_figX (C CB : Addr) : ∀ args Q E, (S_figX C CB).sp args Q E → ir_figures_e C (S_takeX C CB) (S_sgat C) (endsX args E) (endsOf args Q) (rho0 N_figures_e args) := by
  rintro args Q E ⟨z, i, s, one, rfl, hs, ⟨hi, hz⟩, d6, q, qe⟩
  obtain ⟨_, _, _, _, _, l0, _⟩ := lit
  refine ⟨rfl, _, rfl, rfl, z, i, s, FP one, rfl, hs, ⟨hi, hz⟩, fun c hc hp => ?_, fun hno => qe (fig_none hno)⟩
  have fs := fig_some hc hp
  have zl := cl_len z
  have il : i < z.length := by have := (List.getElem?_eq_some_iff.mp hc).1; omega
  have hd : dg c = true := by unfold FP at hp; rw [Bool.and_eq_true] at hp; exact hp.1
  have pos := dgN_pos hc hd
  have nl := dgN_le (cl z) i
  have d6 := d6 i
  have fin : ∀ b : Nat, i ≤ b → b ≤ z.length → (b - i ≤ 4000) → NumText.AllDigits (((cl z).drop i).take (b - i)) → ((cl z).drop i).take (b - i) ≠ [] → PySem.intText? (cutS z (some ((i : Nat) : Int)) (some ((b : Nat) : Int))) = some ((NumText.digitsVal (((cl z).drop i).take (b - i)) : Nat) : Int) ∧ (cutS z (some ((i : Nat) : Int)) (some ((b : Nat) : Int))).length ≤ 4300 := fun b h1 h2 h3 h4 h5 => by
    have e := cut_run h1 h2
    have el : (cutS z (some ((i : Nat) : Int)) (some ((b : Nat) : Int))).length ≤ 4300 := by
      rw [← cl_len]
      show List.length (Str.cps _).toList ≤ _
      rw [e, List.length_take]
      omega
    refine ⟨?_, el⟩
    rw [PySem.intText_digits (by rw [e]; exact h4) (by rw [e]; exact h5) (by omega), e]
  refine ⟨fun h => ?_, fun h => ?_⟩
  · have h : (!decide (o1 c = "0")) = true := h
    have c48 : c ≠ 48 := fun z => by
      rw [l0, z, decide_eq_true rfl] at h; cases h
    rw [if_neg c48] at fs
    refine ⟨fun ρ => ∃ j : Nat, ρ = [some (rdr (some 0) C z j), some (.d s), some (.d (.int ((i : Nat) : Int)))] ∧ i < j ∧ j ≤ i + dgN (cl z) i, fun ρ => z.length + 1 - atOf ρ, ⟨i + 1, rfl, by omega, by omega⟩, ?_⟩
    rintro ρ ⟨j, rfl, j1, j2⟩
    have jl : j ≤ z.length := by omega
    have st := dgN_step (by omega) j2
    refine ⟨rfl, z, j, rfl, jl, hz, ?_⟩
    have stop : (cl z)[j]?.any dg = false → Q (.d (.int ((NumText.digitsVal (dgL (cl z) i) : Nat) : Int))) [rdr (some 0) C z (i + dgN (cl z) i)] := fun _ => q _ _ fs
    have out : (cl z)[j]?.any dg = false → j = i + dgN (cl z) i := fun h => by
      have : ¬ j < i + dgN (cl z) i := fun z => by rw [st.mp z] at h; cases h
      omega
    cases e : (cl z)[j]? with
    | none =>
      rw [sg_none e]
      have hj := out (by rw [e]; rfl)
      subst hj
      refine ⟨fun h => ?_, fun _ => ⟨nofun, fun _ => ?_⟩⟩
      · have h : (!decide (("" : Str) = "")) = true := h
        rw [decide_eq_true rfl] at h; cases h
      · have f := fin _ (by omega) jl (by omega) (by rw [show i + dgN (cl z) i - i = dgN (cl z) i by omega, dgL_take]; exact dg_all _ _) (by rw [show i + dgN (cl z) i - i = dgN (cl z) i by omega, dgL_take]; intro z; unfold dgN at pos; rw [z] at pos; exact absurd pos (Nat.lt_irrefl _))
        rw [show i + dgN (cl z) i - i = dgN (cl z) i by omega, dgL_take] at f
        exact ⟨rfl, _, rfl, rfl, _, rfl, by rw [sizeLine_eq]; exact hz, _, f.1, f.2, q _ _ fs⟩
    | some d =>
      rw [sg_some e]
      refine ⟨fun _ => ?_, fun h => ?_⟩
      · refine ⟨rfl, z, j, rfl, jl, hz, ?_⟩
        rw [sg_some e]
        have eo := occ_in "0123456789" d
        have ed : decide (d ∈ cl "0123456789") = dg d := by
          rw [cl_fig.1, Bool.eq_iff_iff, decide_eq_true_iff]
          unfold dg
          simp
          omega
        rw [ed] at eo
        show brB (!(Builtin.Str.occurrences "0123456789" (o1 d) 0 ("0123456789" : Str).length 1).isEmpty) _ _
        rw [eo]
        refine ⟨fun hd => ?_, fun hd => ?_⟩
        · have lt := st.mpr (by rw [e]; exact hd)
          exact ⟨rfl, _, rfl, rfl, (by show (2 : Nat) < 1000; decide), ⟨j + 1, rfl, by omega, by omega⟩, by show z.length + 1 - (((j : Nat) : Int) + 1).toNat < z.length + 1 - (((j : Nat) : Int)).toNat; omega⟩
        · have hj := out (by rw [e]; exact hd)
          subst hj
          have f := fin _ (by omega) jl (by omega) (by rw [show i + dgN (cl z) i - i = dgN (cl z) i by omega, dgL_take]; exact dg_all _ _) (by rw [show i + dgN (cl z) i - i = dgN (cl z) i by omega, dgL_take]; intro z; unfold dgN at pos; rw [z] at pos; exact absurd pos (Nat.lt_irrefl _))
          rw [show i + dgN (cl z) i - i = dgN (cl z) i by omega, dgL_take] at f
          exact ⟨rfl, _, rfl, rfl, _, rfl, by rw [sizeLine_eq]; exact hz, _, f.1, f.2, q _ _ fs⟩
      · have h : (!decide (o1 d = "")) = false := h
        rw [decide_eq_false (o1_ne d)] at h; cases h
  · have h : (!decide (o1 c = "0")) = false := h
    have c48 : c = 48 := by
      rw [l0] at h
      exact o1_eq.mp (by simpa using h)
    rw [if_pos c48] at fs
    have e1 : ((cl z).drop i).take (i + 1 - i) = [48] := by
      obtain ⟨hi', e⟩ := List.getElem?_eq_some_iff.mp hc
      rw [show i + 1 - i = 1 by omega, List.drop_eq_getElem_cons hi', e, c48]; rfl
    have f := fin (i + 1) (by omega) (by omega) (by omega) (by rw [e1]; intro d hd; rw [List.mem_singleton.mp hd]; decide) (by rw [e1]; simp)
    rw [e1] at f
    exact ⟨rfl, _, rfl, rfl, _, rfl, by rw [sizeLine_eq]; exact hz, _, f.1, f.2, q _ _ fs⟩
def S_leafX (C CB : Addr) : XSpec := ⟨fun args Q E => ∃ (z : Str) (i : Nat), args = [rdr (some 0) C z i] ∧ (i ≤ z.length ∧ z.length ≤ 16777216) ∧ D640 (cl z) ∧
  (∀ v j, leafM (cl z) i = .ok (v, j) → Q (.d v.pd) [rdr (some 0) C z j]) ∧ (∀ e, leafM (cl z) i = .error e → ∀ i', E (CB, [(.str "at", .int (e : Nat))]) [rdr (some 0) C z i'])⟩
abbrev N_leaf_e : List Str := ["reader"]
def ir_leaf_e (S_sign_at : FSpec) (S_take_e : XSpec) (S_figures_e : XSpec) (u : Xd → En → Prop) : TSt :=
  (sSeq (sIf (tVal (dBin (cIn false) (.e (dFz (fCall S_sign_at (aCons (.s 0) aNil)))) (.e (dC (.tuple [.str "x", .str "y"]))))) (sRet (fCallX S_take_e u (aCons (.s 0) (aCons (.e (dC (.tuple [.str "x", .str "y"]))) aNil)))) sNext)
    (sSeq (sIf (tVal (dBin cEq (.e (dFz (fCall S_sign_at (aCons (.s 0) aNil)))) (.e (dC (.str "-"))))) (sSeq (sDrop (dFz (fCallX S_take_e u (aCons (.s 0) (aCons (.e (dC (.str "-"))) aNil)))))
    (sRet (fD (dBin bSub (.e (dC (.int 0))) (.e (dFz (fCallX S_figures_e u (aCons (.s 0) (aCons (.e (dSl (.e (dC (.str "0123456789"))) (pSome (.e (dC (.int 1)))) pNone)) aNil))))))))) sNext)
    (sRet (fCallX S_figures_e u (aCons (.s 0) (aCons (.e (dC (.str "0123456789"))) aNil))))))
theorem cut_f1 : ("0123456789" : Str).length ≤ 16777216 := by decide
theorem sp_leafX (C CB : Addr) : ∀ args Q E, (S_leafX C CB).sp args Q E → ir_leaf_e (S_sgat C) (S_takeX C CB) (S_figX C CB) (endsX args E) (endsOf args Q) (rho0 N_leaf_e args) := by
  rintro args Q E ⟨z, i, rfl, ⟨hi, hz⟩, d6, q, qe⟩
  obtain ⟨_, _, _, _, l5, _, _, l8, l9⟩ := lit
  have zl := cl_len z
  refine ⟨rfl, z, i, rfl, hi, hz, ?_⟩
  have figs : leafM (cl z) i = figE false i (figM (cl z) false i) → ∀ b v, figM (cl z) false i = some (b, v) → Q (.d (.int (v : Nat))) [rdr (some 0) C z b] := fun hm b v hf => by
    rw [hf] at hm
    exact q _ _ hm
  have fige : leafM (cl z) i = figE false i (figM (cl z) false i) → figM (cl z) false i = none → E (CB, [(.str "at", .int (i : Nat))]) [rdr (some 0) C z i] := fun hm hf => by
    rw [hf] at hm
    exact qe _ hm i
  cases e : (cl z)[i]? with
  | none =>
    rw [sg_none e]
    have hm : leafM (cl z) i = figE false i (figM (cl z) false i) := by unfold leafM; rw [e, if_neg nofun, if_neg nofun, if_neg nofun]
    refine ⟨rfl, _, rfl, rfl, fun h => ?_, fun _ => ⟨rfl, z, i, rfl, hi, hz, ?_⟩⟩
    · have h : ([PyData.str "x", .str "y"].any fun z => PyData.eqv z (.str "")) = true := h
      exact absurd h (by decide)
    · rw [sg_none e]
      refine ⟨fun h => ?_, fun _ => ⟨rfl, z, i, _, false, rfl, sgn_fig, ⟨hi, hz⟩, d6, figs hm, fige hm⟩⟩
      have h : decide (("" : Str) = "-") = true := h
      exact absurd h (by decide)
  | some c =>
    rw [sg_some e]
    have el : ([PyData.str "x", .str "y"].any fun z => PyData.eqv z (.str (o1 c))) = (decide (c = 120) || decide (c = 121)) := by
      rw [l8, l9]
      simp only [List.any_cons, List.any_nil, eqv_o1, Bool.or_false]
      by_cases h1 : c = 120
      · subst h1; decide
      · by_cases h2 : c = 121
        · subst h2; decide
        · simp [h1, h2, Ne.symm h1, Ne.symm h2]
    have il : i < z.length := by have := (List.getElem?_eq_some_iff.mp e).1; omega
    refine ⟨rfl, _, rfl, rfl, ?_⟩
    show brB ([PyData.str "x", .str "y"].any fun z => PyData.eqv z (.str (o1 c))) _ _
    rw [el]
    refine ⟨fun h => ?_, fun h => ?_⟩
    · refine ⟨rfl, z, i, _, _, rfl, sgn_let, ⟨hi, hz⟩, fun d hd _ => ?_, fun hno => ?_⟩
      · rw [e] at hd
        cases hd
        rw [Bool.or_eq_true, decide_eq_true_iff, decide_eq_true_iff] at h
        rcases h with rfl | rfl
        · have := q .x (i + 1) (by unfold leafM; rw [e, if_pos rfl])
          rw [← l8]
          exact this
        · have := q .y (i + 1) (by unfold leafM; rw [e, if_neg (by decide), if_pos rfl])
          rw [← l9]
          exact this
      · rw [hno c e] at h; cases h
    · rw [Bool.or_eq_false_iff, decide_eq_false_iff_not, decide_eq_false_iff_not] at h
      have n1 : (some c : Option Nat) ≠ some 120 := fun z => h.1 (Option.some.inj z)
      have n2 : (some c : Option Nat) ≠ some 121 := fun z => h.2 (Option.some.inj z)
      refine ⟨rfl, z, i, rfl, hi, hz, ?_⟩
      rw [sg_some e]
      refine ⟨fun hm => ?_, fun hm => ?_⟩
      · have hm : o1 c = "-" := of_decide_eq_true hm
        rw [l5, o1_eq] at hm
        subst hm
        have lm : leafM (cl z) i = figE true (i + 1) (figM (cl z) true (i + 1)) := by unfold leafM; rw [e, if_neg n1, if_neg n2, if_pos rfl]
        refine ⟨rfl, z, i, _, _, rfl, (by rw [l5]; exact sgn_one 45), ⟨hi, hz⟩, fun d hd _ => ?_, fun hno => absurd (hno 45 e) (by decide)⟩
        refine ⟨by rw [sizeLine_eq]; exact cut_f1, rfl, z, i + 1, _, true, rfl, sgn_fig1, ⟨by omega, hz⟩, d6, fun b v hf => ?_, fun hf => ?_⟩
        · rw [hf] at lm
          exact q _ _ lm
        · rw [hf] at lm
          exact qe _ lm (i + 1)
      · have hm : ¬ o1 c = "-" := of_decide_eq_false hm
        have n3 : (some c : Option Nat) ≠ some 45 := fun z => hm (by rw [l5, Option.some.inj z])
        have lm : leafM (cl z) i = figE false i (figM (cl z) false i) := by unfold leafM; rw [e, if_neg n1, if_neg n2, if_neg n3]
        exact ⟨rfl, z, i, _, false, rfl, sgn_fig, ⟨hi, hz⟩, d6, figs lm, fige lm⟩
end DL
namespace DL
open PySem L2 PyProof.Rows
def encE : Option (W3 × FT) → List PD
  | none => []
  | some (w, a) => [a.pd, .str w.str]
def encS (s : Stk) : List (List PD) := s.reverse.map encE
theorem enc_cons (e : Option (W3 × FT)) (s : Stk) : encS (e :: s) = encS s ++ [encE e] := by
  unfold encS
  rw [List.reverse_cons, List.map_append]; rfl
theorem enc_len (s : Stk) : (encS s).length = s.length := by unfold encS; rw [List.length_map, List.length_reverse]
theorem split_top {xs : List (Addr × List PD)} {e : Option (W3 × FT)} {s : Stk} (h : xs.map (·.2) = encS (e :: s)) : ∃ b, xs.getLast? = some (b, encE e) ∧ xs.dropLast.map (·.2) = encS s ∧ xs ≠ [] ∧ xs.dropLast.length < xs.length := by
  rw [enc_cons] at h
  rcases List.eq_nil_or_concat xs with rfl | ⟨ys, ⟨b, l⟩, rfl⟩
  · have := congrArg List.length h
    rw [List.length_append] at this
    simp at this
  · rw [List.concat_eq_append] at h ⊢
    rw [List.map_append] at h
    obtain ⟨h1, h2⟩ := List.append_inj' h rfl
    have h2 : l = encE e := by simpa using h2
    subst h2
    refine ⟨b, by simp, by rw [List.dropLast_concat]; exact h1, by simp, by rw [List.dropLast_concat, List.length_append]; exact Nat.lt_succ_self _⟩
theorem StOk.tail {m : Nat} {e : Option (W3 × FT)} {s : Stk} (h : StOk m (e :: s)) : StOk m s := ⟨by have := h.1; rw [List.length_cons] at this; omega, fun w a hm => h.2 w a (List.mem_cons_of_mem _ hm)⟩
def lnOf (ρ : En) : Nat := match (ρ[1]? : Option (Option Lc)) with
  | some (some (Lc.ln _ xs)) => xs.length
  | _ => 0
def S_upX (C CB : Addr) : XSpec := ⟨fun args Q E => ∃ (z : Str) (i : Nat) (xs : List (Addr × List PD)) (s : Stk) (v : FT), args = [rdr (some 0) C z i, .ln (some 1) xs, .d v.pd] ∧ xs.map (·.2) = encS s ∧ (i ≤ z.length ∧ z.length ≤ 16777216) ∧ D640 (cl z) ∧ StOk 4000 s ∧ UpOk (cl z) 4000 s v i ∧
  (∀ s' w j, upM (cl z) s v i = .ok (s', w, j) → ∀ xs', xs'.map (·.2) = encS s' → Q (.d w.pd) [rdr (some 0) C z j, .ln (some 1) xs']) ∧ (∀ e, upM (cl z) s v i = .error e → ∀ i' xs', E (CB, [(.str "at", .int (e : Nat))]) [rdr (some 0) C z i', .ln (some 1) xs'])⟩
theorem val_ops : valS [("+", "add"), ("-", "sub"), ("*", "mul"), ("^", "pow")] (o1 43) = some "add" ∧ valS [("+", "add"), ("-", "sub"), ("*", "mul"), ("^", "pow")] (o1 45) = some "sub" ∧ valS [("+", "add"), ("-", "sub"), ("*", "mul"), ("^", "pow")] (o1 42) = some "mul" ∧ valS [("+", "add"), ("-", "sub"), ("*", "mul"), ("^", "pow")] (o1 94) = some "pow" := by decide
theorem val_w3 {c : Nat} {w : W3} (h : w3 c = some w) : valS [("+", "add"), ("-", "sub"), ("*", "mul"), ("^", "pow")] (o1 c) = some w.str ∧ decide (w.str = "pow") = false := by
  obtain ⟨v1, v2, v3, _⟩ := val_ops
  unfold w3 at h
  split at h
  · rename_i z; subst z; cases h; exact ⟨v1, by decide⟩
  · split at h
    · rename_i z; subst z; cases h; exact ⟨v2, by decide⟩
    · split at h
      · rename_i z; subst z; cases h; exact ⟨v3, by decide⟩
      · cases h
theorem up_none {t : List Nat} {r : Stk} {v : FT} {i : Nat} (hc : t[i]? = some 94) (hf : figM t false (i + 1) = none) : upM t (none :: r) v i = .error (i + 1) := by
  unfold upM
  simp only [hc, show w3 94 = none from rfl, if_pos, hf]
theorem up_pow {t : List Nat} {r : Stk} {v : FT} {i b n : Nat} (hc : t[i]? = some 94) (hf : figM t false (i + 1) = some (b, n)) : upM t (none :: r) v i = if t[b]? = some 41 then upM t r (.pow v n) (b + 1) else .error b := by
  conv => lhs; unfold upM
  simp only [hc, show w3 94 = none from rfl, if_pos, hf]
abbrev N_went_up_e : List Str := ["reader", "lots", "value", "one", "word"]
def ir_went_up_e (S_take_e : XSpec) (S_figures_e : XSpec) (u : Xd → En → Prop) : TSt :=
  (sSeq (sWhile (tVal (dLnEqF true 1)) (sIf (tVal (dLnTopF 1 (dNeg (.e (dC (.int 1)))))) (sSeq (sDrop (dFz (fCallX S_take_e u (aCons (.s 0) (aCons (.e (dC (.str ")"))) aNil)))))
    (sSeq (sPop2Ln 1 [3, 4])
    (sAsg 2 (fD (dTup (aCons (.e (dVar 4)) (aCons (.e (dVar 3)) (aCons (.e (dVar 2)) aNil)))))))) (sSeq (sAsg 4 (fD (dKd [("+", "add"), ("-", "sub"), ("*", "mul"), ("^", "pow")] (.e (dFz (fCallX S_take_e u (aCons (.s 0) (aCons (.e (dC (.list [.str "+", .str "-", .str "*", .str "^"]))) aNil))))))))
    (sSeq (sIf (tVal (dBin cNe (.s 4) (.e (dC (.str "pow"))))) (sSeq (sExtLn 1 (dNeg (.e (dC (.int 1)))) (.e (dFz (fLst (aCons (.e (dVar 2)) (aCons (.e (dVar 4)) aNil))))))
    (sRetV 2)) sNext)
    (sSeq (sAsg 2 (fD (dTup (aCons (.e (dC (.str "pow"))) (aCons (.e (dVar 2)) (aCons (.e (dFz (fCallX S_figures_e u (aCons (.s 0) (aCons (.e (dC (.str "0123456789"))) aNil))))) aNil))))))
    (sSeq (sDrop (dFz (fCallX S_take_e u (aCons (.s 0) (aCons (.e (dC (.str ")"))) aNil)))))
    (sPopLn 1)))))))
    (sRetV 2))
set_option maxHeartbeats 4000000 in
theorem sp_upX (C CB : Addr) : ∀ args Q E, (S_upX C CB).sp args Q E → ir_went_up_e (S_takeX C CB) (S_figX C CB) (endsX args E) (endsOf args Q) (rho0 N_went_up_e args) := by
  rintro args Q E ⟨z, i0, xs0, s0, v0, rfl, hx0, ⟨hi0, hz⟩, d6, so0, uo0, q, qe⟩
  obtain ⟨_, l2, _, _, _, _, l7, _, _⟩ := lit
  have bigS : sizeLine = 16777216 := sizeLine_eq
  have zl := cl_len z
  refine ⟨fun ρ => ∃ (s : Stk) (v : FT) (i : Nat) (xs : List (Addr × List PD)) (s3 s4 : Option Lc), ρ = [some (rdr (some 0) C z i), some (.ln (some 1) xs), some (.d v.pd), s3, s4] ∧ xs.map (·.2) = encS s ∧ i ≤ z.length ∧ StOk 4000 s ∧ UpOk (cl z) 4000 s v i ∧ upM (cl z) s v i = upM (cl z) s0 v0 i0, lnOf, ⟨s0, v0, i0, xs0, none, none, rfl, hx0, hi0, so0, uo0, rfl⟩, ?_⟩
  rintro ρ ⟨s, v, i, xs, s3, s4, rfl, hx, hi, so, uo, hu⟩
  cases s with
  | nil =>
    have e0 : xs = [] := List.map_eq_nil_iff.mp hx
    subst e0
    refine ⟨nofun, fun _ => ?_⟩
    exact q [] v i (by rw [← hu]; rfl) [] rfl
  | cons e r =>
    obtain ⟨b, hl, hr, hne, hlt⟩ := split_top hx
    have em : xs.isEmpty = false := by cases xs <;> first | rfl | exact absurd rfl hne
    refine ⟨fun _ => ?_, fun h => ?_⟩
    · refine ⟨rfl, rfl, b, encE e, hl, ?_⟩
      cases e with
      | some p =>
        obtain ⟨w, a⟩ := p
        refine ⟨fun _ => ?_, nofun⟩
        refine ⟨rfl, z, i, _, _, rfl, (by rw [l2]; exact sgn_one 41), ⟨hi, hz⟩, fun c hc hp => ?_, fun hno => ?_⟩
        · have hp : c = 41 := of_decide_eq_true hp
          subst hp
          have il := (List.getElem?_eq_some_iff.mp hc).1
          refine ⟨b, _, hl, rfl, ?_⟩
          unfold UpOk at uo
          refine ⟨⟨r, w.ft a v, i + 1, xs.dropLast, some (.d a.pd), some (.d (.str w.str)), by rw [W3.pd]; rfl, hr, by omega, so.tail, uo.2 hc, ?_⟩, hlt⟩
          rw [← hu]
          conv => rhs; unfold upM
          rw [if_pos hc]
        · refine qe i ?_ i xs
          rw [← hu]
          unfold upM
          rw [if_neg]
          intro hc
          have := hno 41 hc
          exact absurd this (by decide)
      | none =>
        refine ⟨nofun, fun _ => ?_⟩
        refine ⟨rfl, z, i, _, _, rfl, sgn_ops, ⟨hi, hz⟩, fun c hc hp => ?_, fun hno => ?_⟩
        · have il := (List.getElem?_eq_some_iff.mp hc).1
          cases hw : w3 c with
          | some w =>
            obtain ⟨v1, v2⟩ := val_w3 hw
            refine ⟨w.str, v1, fun _ => ?_, fun h => ?_⟩
            · refine ⟨rfl, rfl, b, [], hl, rfl, by rw [bigS]; show 0 + 2 ≤ 16777216; decide, ?_⟩
              refine q (some (w, v) :: r) v (i + 1) ?_ _ ?_
              · rw [← hu]
                conv => lhs; unfold upM
                rw [hc]
                simp only [hw]
              · rw [List.map_append, hr, enc_cons]; rfl
            · have h : (!decide (w.str = "pow")) = false := h
              rw [v2] at h; cases h
          | none =>
            rw [hw] at hp
            have c94 : c = 94 := by simpa using hp
            subst c94
            refine ⟨"pow", val_ops.2.2.2, fun h => ?_, fun _ => ?_⟩
            · have h : (!decide (("pow" : Str) = "pow")) = true := h
              rw [decide_eq_true rfl] at h; cases h
            refine ⟨rfl, z, i + 1, _, false, rfl, sgn_fig, ⟨by omega, hz⟩, d6, fun b2 n hf => ?_, fun hf => ?_⟩
            · have fl := figM_le hf
              have un := up_pow (r := r) (v := v) hc hf
              refine ⟨rfl, z, b2, _, _, rfl, (by rw [l2]; exact sgn_one 41), ⟨by omega, hz⟩, fun d hd hp => ?_, fun hno => ?_⟩
              · have hp : d = 41 := of_decide_eq_true hp
                subst hp
                have bl := (List.getElem?_eq_some_iff.mp hd).1
                refine ⟨hne, ⟨r, .pow v n, b2 + 1, xs.dropLast, _, _, rfl, hr, by omega, so.tail, ?_, ?_⟩, hlt⟩
                · unfold UpOk at uo
                  exact uo.2 b2 n hc hf hd
                · rw [← hu, un]
                  simp only [if_pos hd]
              · refine qe b2 ?_ b2 xs
                rw [← hu, un]
                have : ¬ (cl z)[b2]? = some 41 := fun hd => absurd (hno 41 hd) (by decide)
                simp only [if_neg this]
            · refine qe (i + 1) ?_ (i + 1) xs
              rw [← hu]
              exact up_none hc hf
        · refine qe i ?_ i xs
          rw [← hu]
          unfold upM
          cases hc : (cl z)[i]? with
          | none => rfl
          | some c =>
            have := hno c hc
            rw [Bool.or_eq_false_iff, decide_eq_false_iff_not] at this
            have hw : w3 c = none := by
              cases hw : w3 c with
              | none => rfl
              | some w => rw [hw] at this; exact absurd this.1 nofun
            simp only [hw, if_neg this.2]
    · have h : (!xs.isEmpty) = false := h
      rw [em] at h; cases h
def S_wholeX (C CB : Addr) : XSpec := ⟨fun args Q E => ∃ (z : Str) (r : Except Nat (FT × Nat)), args = [rdr (some 0) C z 0] ∧ z.length ≤ 1000000 ∧ D640 (cl z) ∧ Reads (cl z) 4000 [] 0 r ∧
  (∀ w k, r = .ok (w, k) → k ≤ z.length → Q (.d w.pd) [rdr (some 0) C z k]) ∧ (∀ e, r = .error e → ∀ i', E (CB, [(.str "at", .int (e : Nat))]) [rdr (some 0) C z i'])⟩
abbrev N_read_whole_e : List Str := ["reader", "lots", "value"]
def ir_read_whole_e (S_sign_at : FSpec) (S_take_e : XSpec) (S_went_up_e : XSpec) (S_leaf_e : XSpec) (u : Xd → En → Prop) : TSt :=
  (sSeq (sAsg 1 fLn0)
    (sWhile (tVal (dC (.bool true))) (sSeq (sWhile (tVal (dBin cEq (.e (dFz (fCall S_sign_at (aCons (.s 0) aNil)))) (.e (dC (.str "("))))) (sSeq (sDrop (dFz (fCallX S_take_e u (aCons (.s 0) (aCons (.e (dC (.str "("))) aNil)))))
    (sAppLn 1)))
    (sSeq (sAsg 2 (fCallX S_went_up_e u (aCons (.s 0) (aCons (.s 1) (aCons (.e (dFz (fCallX S_leaf_e u (aCons (.s 0) aNil)))) aNil)))))
    (sIf (tVal (dLnEqF false 1)) (sRetV 2) sNext)))))
theorem Reads.open_ {t : List Nat} {m : Nat} {s : Stk} {i : Nat} {r : Except Nat (FT × Nat)} (h : Reads t m s i r) (e : t[i]? = some 40) : StOk m (none :: s) ∧ Reads t m (none :: s) (i + 1) r := by
  cases h with
  | push _ h1 h2 => exact ⟨h1, h2⟩
  | bad h1 => exact absurd e h1
  | badUp h1 => exact absurd e h1
  | done h1 => exact absurd e h1
  | more h1 => exact absurd e h1
theorem enc_nil {xs : List (Addr × List PD)} {s : Stk} (h : xs.map (·.2) = encS s) : xs.isEmpty = s.isEmpty := by
  have := congrArg List.length h
  rw [List.length_map, enc_len] at this
  cases xs <;> cases s <;> simp at this ⊢
set_option maxHeartbeats 4000000 in
theorem sp_wholeX (C CB : Addr) : ∀ args Q E, (S_wholeX C CB).sp args Q E → ir_read_whole_e (S_sgat C) (S_takeX C CB) (S_upX C CB) (S_leafX C CB) (endsX args E) (endsOf args Q) (rho0 N_read_whole_e args) := by
  rintro args Q E ⟨z, r, rfl, hz0, d6, hr, q, qe⟩
  obtain ⟨l1, _, _, _, _, _, _, _, _⟩ := lit
  have bigS : sizeLine = 16777216 := sizeLine_eq
  have zl := cl_len z
  have hz : z.length ≤ 16777216 := Nat.le_trans hz0 (by decide)
  have so0 : StOk 4000 ([] : Stk) := ⟨by decide, nofun⟩
  refine ⟨fun ρ => ∃ (s : Stk) (i : Nat) (xs : List (Addr × List PD)) (s2 : Option Lc), ρ = [some (rdr (some 0) C z i), some (.ln none xs), s2] ∧ xs.map (·.2) = encS s ∧ i ≤ z.length ∧ StOk 4000 s ∧ Reads (cl z) 4000 s i r, fun ρ => z.length + 1 - atOf ρ, ⟨[], 0, [], none, rfl, rfl, Nat.zero_le _, so0, hr⟩, ?_⟩
  rintro ρ ⟨s, i0, xs, s2, rfl, hx, hi0, so, hR⟩
  refine ⟨fun _ => ?_, nofun⟩
  refine ⟨fun ρ => ∃ (s : Stk) (i : Nat) (xs : List (Addr × List PD)), ρ = [some (rdr (some 0) C z i), some (.ln none xs), s2] ∧ xs.map (·.2) = encS s ∧ (i0 ≤ i ∧ i ≤ z.length) ∧ StOk 4000 s ∧ Reads (cl z) 4000 s i r, fun ρ => z.length + 1 - atOf ρ, ⟨s, i0, xs, rfl, hx, ⟨Nat.le_refl _, hi0⟩, so, hR⟩, ?_⟩
  rintro ρ ⟨s, i, xs, rfl, hx, ⟨hii, hi⟩, so, hR⟩
  refine ⟨rfl, z, i, rfl, hi, hz, ?_⟩
  refine ⟨fun h => ?_, fun h => ?_⟩
  · have h40 : (cl z)[i]? = some 40 := by
      have h : sg z i = "(" := of_decide_eq_true h
      cases e : (cl z)[i]? with
      | none => rw [sg_none e, l1] at h; exact absurd h.symm (o1_ne 40)
      | some c => rw [sg_some e, l1, o1_eq] at h; rw [h]
    have il := (List.getElem?_eq_some_iff.mp h40).1
    obtain ⟨so2, hR2⟩ := hR.open_ h40
    refine ⟨rfl, z, i, _, _, rfl, (by rw [l1]; exact sgn_one 40), ⟨hi, hz⟩, fun c hc hp => ?_, fun hno => absurd (hno 40 h40) (by decide)⟩
    refine ⟨?_, fun b => ⟨⟨none :: s, i + 1, xs ++ [(b, [])], rfl, ?_, ⟨by omega, by omega⟩, so2, hR2⟩, ?_⟩⟩
    · have := congrArg List.length hx
      rw [List.length_map, enc_len] at this
      have := so.1
      rw [bigS]; omega
    · rw [List.map_append, hx, enc_cons]; rfl
    · show z.length + 1 - (((i : Nat) : Int) + 1).toNat < z.length + 1 - (((i : Nat) : Int)).toNat
      omega
  · have n40 : (cl z)[i]? ≠ some 40 := fun e => by
      have h : ¬ sg z i = "(" := of_decide_eq_false h
      rw [sg_some e, l1] at h
      exact h rfl
    refine ⟨rfl, z, i, rfl, ⟨hi, hz⟩, d6, fun v j hl => ?_, fun e he i' => ?_⟩
    · have jl := leafM_le hl
      have inv : StOk 4000 s ∧ UpOk (cl z) 4000 s v j ∧ ((∃ e, upM (cl z) s v j = .error e ∧ r = .error e) ∨ (∃ w k, upM (cl z) s v j = .ok ([], w, k) ∧ r = .ok (w, k)) ∨ ∃ s' w k, upM (cl z) s v j = .ok (s', w, k) ∧ s' ≠ [] ∧ StOk 4000 s' ∧ Reads (cl z) 4000 s' k r) := by
        cases hR with
        | push h1 => exact absurd h1 n40
        | bad _ h1 => rw [hl] at h1; cases h1
        | badUp _ h1 h2 h3 h4 => rw [hl] at h1; cases h1; exact ⟨h2, h3, .inl ⟨_, h4, rfl⟩⟩
        | done _ h1 h2 h3 h4 => rw [hl] at h1; cases h1; exact ⟨h2, h3, .inr (.inl ⟨_, _, h4, rfl⟩)⟩
        | more _ h1 h2 h3 h4 h5 h6 h7 => rw [hl] at h1; cases h1; exact ⟨h2, h3, .inr (.inr ⟨_, _, _, h4, h5, h6, h7⟩)⟩
      obtain ⟨i1, i2, i3⟩ := inv
      refine ⟨rfl, z, j, xs, s, v, rfl, hx, ⟨by omega, hz⟩, d6, i1, i2, fun s' w k hu xs' hx' => ?_, fun e hu i' xs' => ?_⟩
      · have kl := upM_le (show j ≤ (cl z).length by omega) hu
        rcases i3 with ⟨e, h1, _⟩ | ⟨w', k', h1, h2⟩ | ⟨s2', w', k', h1, h2, h3, h4⟩
        · rw [hu] at h1; cases h1
        · rw [hu] at h1
          cases h1
          show brB xs'.isEmpty _ _
          have em := enc_nil hx'
          rw [em]
          exact ⟨fun _ => q _ _ h2 (by omega), nofun⟩
        · rw [hu] at h1
          cases h1
          show brB xs'.isEmpty _ _
          have em := enc_nil hx'
          have e2 : s'.isEmpty = false := by cases s' <;> first | rfl | exact absurd rfl h2
          rw [em, e2]
          exact ⟨nofun, fun _ => ⟨⟨s', k, xs', _, rfl, hx', by omega, h3, h4⟩, by show z.length + 1 - (((k : Nat) : Int)).toNat < z.length + 1 - (((i0 : Nat) : Int)).toNat; omega⟩⟩
      · rcases i3 with ⟨e', h1, h2⟩ | ⟨w', k', h1, h2⟩ | ⟨s2', w', k', h1, _⟩
        · rw [hu] at h1
          cases h1
          exact qe e h2 i'
        · rw [hu] at h1; cases h1
        · rw [hu] at h1; cases h1
    · have : r = .error e := by
        cases hR with
        | push h1 => exact absurd h1 n40
        | bad _ h1 => rw [he] at h1; cases h1; rfl
        | badUp _ h1 => rw [he] at h1; cases h1
        | done _ h1 => rw [he] at h1; cases h1
        | more _ h1 => rw [he] at h1; cases h1
      exact qe e this i'
end DL
namespace DL
open PySem L2 PyProof.Rows
def Att (t : List Nat) (i : Nat) (l : List Nat) : Prop := ∃ r, t.drop i = l ++ r
theorem Att.cons {t : List Nat} {i c : Nat} {l : List Nat} (h : Att t i (c :: l)) : t[i]? = some c ∧ Att t (i + 1) l := by
  obtain ⟨r, h⟩ := h
  constructor
  · have : (t.drop i)[0]? = some c := by rw [h]; rfl
    rw [List.getElem?_drop] at this
    exact this
  · refine ⟨r, ?_⟩
    rw [← List.drop_drop, h]; rfl
theorem Att.app {t : List Nat} : ∀ {l m : List Nat} {i : Nat}, Att t i (l ++ m) → Att t i l ∧ Att t (i + l.length) m
  | [], m, i, h => ⟨⟨_, rfl⟩, h⟩
  | c :: l, m, i, h => by
    have h1 := Att.cons h
    have h2 := Att.app h1.2
    obtain ⟨r, hr⟩ := h
    refine ⟨⟨m ++ r, by rw [hr, List.append_assoc]⟩, ?_⟩
    rw [List.length_cons, show i + (l.length + 1) = i + 1 + l.length by omega]
    exact h2.2
theorem Att.all (l : List Nat) : Att l 0 l := ⟨[], by simp⟩
def intL : Int → List Nat
  | .ofNat m => TL.numL m
  | .negSucc m => 45 :: TL.numL (m + 1)
theorem cl_num (n : Nat) : cl (Str.ofString (toString ((n : Nat) : Int))) = TL.numL n := TL.tl_num n
theorem cl_int (i : Int) : cl (Str.ofString (toString i)) = intL i := by
  cases i with
  | ofNat m => exact cl_num m
  | negSucc m =>
    have e : toString (Int.negSucc m) = "-" ++ toString (((m + 1 : Nat)) : Int) := rfl
    have e2 : cl (Str.ofString ("-" ++ toString (((m + 1 : Nat)) : Int))) = 45 :: cl (Str.ofString (toString (((m + 1 : Nat)) : Int))) := by
      unfold cl
      rw [PySem.Str.ofString_eq_toList, PySem.Str.ofString_eq_toList]
      simp
    rw [e, e2, cl_num]; rfl
def NoD (t : List Nat) (i : Nat) : Prop := ∀ c, t[i]? = some c → dg c = false
theorem NoD.at {t : List Nat} {i c : Nat} {l : List Nat} (h : Att t i (c :: l)) (hc : dg c = false) : NoD t i := fun d hd => by
  rw [h.cons.1] at hd; cases hd; exact hc
def textF : FT → Str
  | .int i => (toString i : String)
  | .x => "x"
  | .y => "y"
  | .add a b => (((("(" : Str) ++ textF a) ++ "+") ++ textF b) ++ ")"
  | .sub a b => (((("(" : Str) ++ textF a) ++ "-") ++ textF b) ++ ")"
  | .mul a b => (((("(" : Str) ++ textF a) ++ "*") ++ textF b) ++ ")"
  | .pow a n => (((("(" : Str) ++ textF a) ++ "^") ++ (toString ((n : Nat) : Int) : String)) ++ ")"
def textL : FT → List Nat
  | .int i => intL i
  | .x => [120]
  | .y => [121]
  | .add a b => 40 :: (textL a ++ 43 :: (textL b ++ [41]))
  | .sub a b => 40 :: (textL a ++ 45 :: (textL b ++ [41]))
  | .mul a b => 40 :: (textL a ++ 42 :: (textL b ++ [41]))
  | .pow a n => 40 :: (textL a ++ 94 :: (TL.numL n ++ [41]))
theorem cl_lits : cl "(" = [40] ∧ cl ")" = [41] ∧ cl "+" = [43] ∧ cl "-" = [45] ∧ cl "*" = [42] ∧ cl "^" = [94] ∧ cl "x" = [120] ∧ cl "y" = [121] := by decide
theorem cl_text : ∀ f : FT, cl (textF f) = textL f := fun f => by
  obtain ⟨l1, l2, l3, l4, l5, l6, l7, l8⟩ := cl_lits
  induction f with
  | int i => exact cl_int i
  | x => exact l7
  | y => exact l8
  | add a b ia ib => simp only [textF, textL, cl_app, l1, l2, l3, ia, ib]; simp
  | sub a b ia ib => simp only [textF, textL, cl_app, l1, l2, l4, ia, ib]; simp
  | mul a b ia ib => simp only [textF, textL, cl_app, l1, l2, l5, ia, ib]; simp
  | pow a n ia => simp only [textF, textL, cl_app, l1, l2, l6, ia, cl_num]; simp
def Goes (t : List Nat) (s : Stk) (v : FT) (k : Nat) (r : Except Nat (FT × Nat)) : Prop := UpOk t 4000 s v k ∧
  ((∃ e, upM t s v k = .error e ∧ r = .error e) ∨ (∃ w j, upM t s v k = .ok ([], w, j) ∧ r = .ok (w, j)) ∨
   (∃ s' w j, upM t s v k = .ok (s', w, j) ∧ s' ≠ [] ∧ StOk 4000 s' ∧ Reads t 4000 s' j r))
theorem Goes.leaf {t : List Nat} {s : Stk} {v : FT} {i k : Nat} {r : Except Nat (FT × Nat)} (h1 : t[i]? ≠ some 40) (h2 : leafM t i = .ok (v, k)) (so : StOk 4000 s) (g : Goes t s v k r) : Reads t 4000 s i r := by
  obtain ⟨u, ⟨e, h, rfl⟩ | ⟨w, j, h, rfl⟩ | ⟨s', w, j, h, h3, h4, h5⟩⟩ := g
  · exact .badUp h1 h2 so u h
  · exact .done h1 h2 so u h
  · exact .more h1 h2 so u h h3 h4 h5
theorem StOk.push {s : Stk} {m d : Nat} (h : StOk m s) (hl : s.length + (d + 1) ≤ 5000) : StOk m (none :: s) := ⟨by rw [List.length_cons]; omega, fun w a hm => by
  rcases List.mem_cons.mp hm with e | hm
  · cases e
  · exact h.2 w a hm⟩
theorem StOk.put {s : Stk} {m : Nat} {w : W3} {a : FT} (h : StOk m (none :: s)) (ha : a.lev ≤ m) : StOk m (some (w, a) :: s) := ⟨by have := h.1; rw [List.length_cons] at this ⊢; exact this, fun w2 a2 hm => by
  rcases List.mem_cons.mp hm with e | hm
  · cases e; exact ha
  · exact h.2 w2 a2 (List.mem_cons_of_mem _ hm)⟩
def Run (l : List Nat) : Prop := ∀ i, ((l.drop i).takeWhile dg).length ≤ 4000
theorem Run.short {l : List Nat} (h : l.length ≤ 4000) : Run l := fun i => by
  have h1 := List.takeWhile_sublist dg (l := l.drop i) |>.length_le
  rw [List.length_drop] at h1
  omega
theorem Run.cons {c : Nat} {l : List Nat} (hc : dg c = false) (h : Run l) : Run (c :: l) := fun i => by
  cases i with
  | zero => rw [List.drop_zero, List.takeWhile_cons_of_neg (by rw [hc]; exact Bool.false_ne_true)]; exact Nat.zero_le _
  | succ i => exact h i
theorem take_le {c : Nat} (hc : dg c = false) : ∀ l m : List Nat, ((l ++ c :: m).takeWhile dg).length ≤ (l.takeWhile dg).length
  | [], m => by rw [List.nil_append, List.takeWhile_cons_of_neg (by rw [hc]; exact Bool.false_ne_true)]; exact Nat.zero_le _
  | d :: l, m => by
    rw [List.cons_append]
    by_cases hd : dg d = true
    · rw [List.takeWhile_cons_of_pos hd, List.takeWhile_cons_of_pos hd, List.length_cons, List.length_cons]
      exact Nat.succ_le_succ (take_le hc l m)
    · rw [List.takeWhile_cons_of_neg hd]; exact Nat.zero_le _
theorem Run.app {l m : List Nat} {c : Nat} (h : Run l) (hc : dg c = false) (h2 : Run m) : Run (l ++ c :: m) := fun i => by
  rcases Nat.lt_or_ge l.length i with q | q
  · rw [List.drop_append, List.drop_eq_nil_of_le (by omega), List.nil_append]
    exact (h2.cons hc) _
  · rw [List.drop_append, show i - l.length = 0 by omega, List.drop_zero]
    exact Nat.le_trans (take_le hc _ _) (h i)
end DL
namespace DL
open PySem L2 PyProof.Rows
def stepF : List FT → Nat → List FT → Option (List FT × Nat)
  | [], p, later => some (later, p)
  | f :: r, p, later => if f.good1 = true ∧ p + 1 ≤ 200 then stepF r (p + 1) (later ++ f.kids) else none
def hf : Nat → List FT → Nat → Bool
  | 0, layer, _ => layer.isEmpty
  | n + 1, layer, p => match stepF layer p [] with
    | none => false
    | some (later, q) => hf n later q
def FT.size : FT → Nat
  | add a b | sub a b | mul a b => a.size + b.size + 1
  | pow a _ => a.size + 1
  | _ => 1
def szL : List FT → Nat
  | [] => 0
  | f :: r => f.size + szL r
theorem szL_app : ∀ xs ys : List FT, szL (xs ++ ys) = szL xs + szL ys
  | [], ys => by rw [List.nil_append, szL, Nat.zero_add]
  | x :: r, ys => by rw [List.cons_append, szL, szL, szL_app r ys, Nat.add_assoc]
theorem FT.size_kids (f : FT) : f.size = szL f.kids + 1 := by
  cases f <;> simp only [size, kids, szL] <;> omega
theorem FT.lev_kids (f : FT) (n : Nat) : f.lev ≤ n + 1 ↔ ∀ k ∈ f.kids, k.lev ≤ n := by
  cases f <;> simp only [lev, kids, List.mem_cons, List.not_mem_nil, or_false, forall_eq_or_imp, forall_eq, false_implies, implies_true, iff_true] <;> omega
def FT.wfb : FT → Bool
  | int i => decide ((if i < 0 then -i else i) < 10000000000000000000000000000000000000000)
  | add a b | sub a b | mul a b => a.wfb && b.wfb
  | pow a n => decide (((n : Nat) : Int) ≤ 16) && a.wfb
  | _ => true
theorem FT.wfb_kids (f : FT) : f.wfb = true ↔ f.good1 = true ∧ ∀ k ∈ f.kids, k.wfb = true := by
  cases f <;> simp only [wfb, good1, kids, List.mem_cons, List.not_mem_nil, or_false, forall_eq_or_imp, forall_eq, false_implies, implies_true, and_true, true_and, Bool.and_eq_true]
theorem FT.wfb_wf : ∀ {f : FT}, f.wfb = true → f.wf
  | int i, h => by
    have h : (if i < 0 then -i else i) < 10000000000000000000000000000000000000000 := of_decide_eq_true h
    show i.natAbs < 10 ^ 40
    split at h <;> omega
  | x, _ => trivial
  | y, _ => trivial
  | add a b, h => by simp only [wfb, Bool.and_eq_true] at h; exact ⟨wfb_wf h.1, wfb_wf h.2⟩
  | sub a b, h => by simp only [wfb, Bool.and_eq_true] at h; exact ⟨wfb_wf h.1, wfb_wf h.2⟩
  | mul a b, h => by simp only [wfb, Bool.and_eq_true] at h; exact ⟨wfb_wf h.1, wfb_wf h.2⟩
  | pow a n, h => by
    simp only [wfb, Bool.and_eq_true, decide_eq_true_iff] at h
    exact ⟨wfb_wf h.2, by omega⟩
theorem stepF_some : ∀ {layer : List FT} {p : Nat} {later : List FT}, (∀ f ∈ layer, f.good1 = true) → p + layer.length ≤ 200 → stepF layer p later = some (later ++ layer.flatMap FT.kids, p + layer.length)
  | [], p, later, _, _ => by simp [stepF]
  | f :: r, p, later, h, hp => by
    rw [List.length_cons] at hp
    rw [stepF, if_pos ⟨h f List.mem_cons_self, by omega⟩, stepF_some (fun g hg => h g (List.mem_cons_of_mem _ hg)) (by omega)]
    rw [List.flatMap_cons, List.append_assoc, List.length_cons, show p + 1 + r.length = p + (r.length + 1) by omega]
theorem stepF_good : ∀ {layer : List FT} {p : Nat} {later : List FT} {x : List FT × Nat}, p ≤ 200 → stepF layer p later = some x → (∀ f ∈ layer, f.good1 = true) ∧ p + layer.length ≤ 200
  | [], p, later, x, hp, _ => ⟨fun f hf => (by cases hf), by simpa using hp⟩
  | f :: r, p, later, x, hp, h => by
    rw [stepF] at h
    split at h
    · rename_i c
      obtain ⟨h1, h2⟩ := stepF_good c.2 h
      refine ⟨fun g hg => ?_, by rw [List.length_cons]; omega⟩
      rcases List.mem_cons.mp hg with rfl | hg
      · exact c.1
      · exact h1 g hg
    · cases h
theorem szL_kids : ∀ layer : List FT, szL layer = layer.length + szL (layer.flatMap FT.kids)
  | [] => rfl
  | f :: r => by
    rw [szL, List.flatMap_cons, szL_app, List.length_cons, szL_kids r, f.size_kids]
    omega
theorem hf_iff : ∀ (n : Nat) (layer : List FT) (p : Nat), p ≤ 200 → (hf n layer p = true ↔ (∀ f ∈ layer, f.lev ≤ n ∧ f.wfb = true) ∧ p + szL layer ≤ 200)
  | 0, layer, p, hp => by
    cases layer with
    | nil => exact ⟨fun _ => ⟨fun f hf => (by cases hf), by simpa [szL] using hp⟩, fun _ => rfl⟩
    | cons f r =>
      refine ⟨nofun, fun h => ?_⟩
      have a := (h.1 f List.mem_cons_self).1
      have b := f.lev_pos
      omega
  | n + 1, layer, p, hp => by
    rw [hf]
    refine ⟨fun h => ?_, fun ⟨h1, h2⟩ => ?_⟩
    · cases e : stepF layer p [] with
      | none => rw [e] at h; cases h
      | some x =>
        obtain ⟨g1, g2⟩ := stepF_good hp e
        rw [stepF_some g1 g2, List.nil_append] at e
        rw [stepF_some g1 g2, List.nil_append] at h
        obtain ⟨k1, k2⟩ := (hf_iff n _ _ g2).mp h
        refine ⟨fun f hf => ⟨(f.lev_kids n).mpr fun k hk => (k1 k (List.mem_flatMap.mpr ⟨f, hf, hk⟩)).1, (f.wfb_kids).mpr ⟨g1 f hf, fun k hk => (k1 k (List.mem_flatMap.mpr ⟨f, hf, hk⟩)).2⟩⟩, ?_⟩
        rw [szL_kids]
        omega
    · have g1 : ∀ f ∈ layer, f.good1 = true := fun f hf => ((f.wfb_kids).mp (h1 f hf).2).1
      rw [szL_kids] at h2
      rw [stepF_some g1 (by omega), List.nil_append]
      refine (hf_iff n _ _ (by omega)).mpr ⟨fun k hk => ?_, by omega⟩
      obtain ⟨f, hf, hk⟩ := List.mem_flatMap.mp hk
      exact ⟨(f.lev_kids n).mp (h1 f hf).1 k hk, ((f.wfb_kids).mp (h1 f hf).2).2 k hk⟩
def rch : FT → Nat
  | .pow a n => max 1 (n * rch a)
  | .mul a b => rch a + rch b
  | .add a b | .sub a b => max (rch a) (rch b)
  | _ => 1
theorem rch_le : ∀ f : FT, rch f ≤ f.e ∧ 1 ≤ rch f
  | .int _ => ⟨Nat.le_refl _, Nat.le_refl _⟩
  | .x => ⟨Nat.le_refl _, Nat.le_refl _⟩
  | .y => ⟨Nat.le_refl _, Nat.le_refl _⟩
  | .add a b => by have := rch_le a; have := rch_le b; simp only [rch, FT.e]; omega
  | .sub a b => by have := rch_le a; have := rch_le b; simp only [rch, FT.e]; omega
  | .mul a b => by have := rch_le a; have := rch_le b; simp only [rch, FT.e]; omega
  | .pow a n => by
    have h := rch_le a
    have ep := a.e_pos
    simp only [rch, FT.e]
    have h1 : n * rch a ≤ a.e * max 1 n := by rw [Nat.mul_comm]; exact Nat.mul_le_mul h.1 (by omega)
    have h2 : 1 ≤ a.e * max 1 n := Nat.mul_pos ep (by omega)
    omega
def S_reach (d : Nat) : FSpec := ⟨fun args Q => ∃ f : FT, args = [.d f.pd] ∧ f.lev ≤ d ∧ f.e < 2 ^ 20 ∧ Q (.d (.int ((rch f : Nat) : Int))) []⟩
abbrev N_reach : List Str := ["formula", "one", "other"]
def ir_reach (S_reach : FSpec) : TSt :=
  (sSeq (sIf (tNotD (tVal (dIsi "tuple" (.s 0)))) (sRet (fD (dC (.int 1)))) sNext)
    (sSeq (sIf (tVal (dBin cEq (.e (dBin bIx (.s 0) (.e (dC (.int 0))))) (.e (dC (.str "pow"))))) (sRet (fD (dBi bMax2 (aCons (.e (dC (.int 1))) (aCons (.e (dBin bMulI (.e (dBin bIx (.s 0) (.e (dC (.int 2))))) (.e (dFz (fCall S_reach (aCons (.e (dBin bIx (.s 0) (.e (dC (.int 1))))) aNil)))))) aNil))))) sNext)
    (sSeq (sPar 1 2 (fCall S_reach (aCons (.e (dBin bIx (.s 0) (.e (dC (.int 1))))) aNil)) (fCall S_reach (aCons (.e (dBin bIx (.s 0) (.e (dC (.int 2))))) aNil)))
    (sRet (fD (dIte (tVal (dBin cEq (.e (dBin bIx (.s 0) (.e (dC (.int 0))))) (.e (dC (.str "mul"))))) (dBin bAdd (.s 1) (.s 2)) (dBi bMax2 (aCons (.s 1) (aCons (.s 2) aNil)))))))))
def gr : FT → Nat
  | .pow a n => max (rch (.pow a n)) (gr a)
  | .mul a b => max (rch (.mul a b)) (max (gr a) (gr b))
  | .add a b => max (rch (.add a b)) (max (gr a) (gr b))
  | .sub a b => max (rch (.sub a b)) (max (gr a) (gr b))
  | _ => 1
theorem gr_max {f : FT} {m : Int} (h1 : m ∈ ((rch f : Nat) : Int) :: (f.kids.map fun k => ((gr k : Nat) : Int))) (h2 : ∀ y ∈ ((rch f : Nat) : Int) :: (f.kids.map fun k => ((gr k : Nat) : Int)), y ≤ m) : m = ((gr f : Nat) : Int) := by
  cases f <;> simp only [FT.kids, List.map_cons, List.map_nil, List.mem_cons, List.not_mem_nil, or_false, forall_eq_or_imp, forall_eq] at h1 h2 <;> simp only [gr]
  all_goals first | (simp only [rch] at h1; omega) | omega
theorem kid_e {f k : FT} (h : k ∈ f.kids) : k.e ≤ f.e := by
  cases f with
  | int i => cases h
  | x => cases h
  | y => cases h
  | pow a n =>
    simp only [FT.kids, List.mem_cons, List.not_mem_nil, or_false] at h
    subst h
    exact Nat.le_mul_of_pos_right _ (by omega)
  | add a b | sub a b =>
    simp only [FT.kids, List.mem_cons, List.not_mem_nil, or_false] at h
    rcases h with rfl | rfl <;> simp only [FT.e] <;> omega
  | mul a b =>
    simp only [FT.kids, List.mem_cons, List.not_mem_nil, or_false] at h
    rcases h with rfl | rfl <;> simp only [FT.e] <;> omega
abbrev N_greatest_reach : List Str := ["formula", "one"]
def ir_greatest_reach (S_reach : FSpec) (S_inner : FSpec) (S_greatest_reach : FSpec) : TSt :=
  (sRet (fD (dBi bMax1 (aCons (.e (dBin bAdd (.e (dFz (fLst (aCons (.e (dFz (fCall S_reach (aCons (.e (dVar 0)) aNil)))) aNil)))) (.e (dFz (fLc (iSeq (dFz (fCall S_inner (aCons (.e (dVar 0)) aNil)))) [1] (.nm 1) cYes (dFz (fCall S_greatest_reach (aCons (.e (dVar 1)) aNil)))))))) aNil))))
def isF (f : FT) : Bool := hf 16 [f] 0 && decide (((gr f : Nat) : Int) ≤ 16)
theorem hf_one (f : FT) : hf 16 [f] 0 = true ↔ f.lev ≤ 16 ∧ f.wfb = true ∧ f.size ≤ 200 := by
  rw [hf_iff 16 [f] 0 (by decide)]
  simp only [List.mem_cons, List.not_mem_nil, or_false, forall_eq, szL]
  rw [Nat.add_zero, Nat.zero_add, and_assoc]
theorem isF_eq (f : FT) : isF f = (decide (f.lev ≤ 16) && f.wfb && decide (f.size ≤ 200) && decide (gr f ≤ 16)) := by
  have h := hf_one f
  unfold isF
  rw [Bool.eq_iff_iff]
  simp only [Bool.and_eq_true, decide_eq_true_iff]
  rw [h, show (((gr f : Nat) : Int) ≤ 16) ↔ gr f ≤ 16 by omega]
  simp only [and_assoc]
abbrev N_is_formula : List Str := ["value"]
def ir_is_formula (S_greatest_reach : FSpec) (S_has_form : FSpec) : TSt :=
  (sRet (fD (dAnd (dFz (fCall S_has_form (aCons (.e (dVar 0)) aNil))) (dBin cLe (.e (dFz (fCall S_greatest_reach (aCons (.e (dVar 0)) aNil)))) (.e (dC (.int 16)))))))
end DL
namespace DL
open PySem L2 PyProof.Rows
def S_reachW (d : Nat) : FSpec := ⟨fun args Q => ∃ f : FT, args = [.d f.pd] ∧ f.lev ≤ d ∧ f.e < 2 ^ 64 ∧ Q (.d (.int ((rch f : Nat) : Int))) []⟩
theorem S_reachW0 : ∀ args Q, ¬ (S_reachW 0).sp args Q := by
  rintro args Q ⟨f, _, h, _⟩
  have := f.lev_pos
  omega
theorem sp_reachW (d : Nat) : ∀ args Q, (S_reachW (d + 1)).sp args Q → ir_reach (S_reachW d) (endsOf args Q) (rho0 N_reach args) := by
  rintro args Q ⟨f, rfl, hl, he, q⟩
  have mx : ∀ a b : Nat, (if ((b : Nat) : Int) > ((a : Nat) : Int) then ((b : Nat) : Int) else ((a : Nat) : Int)) = ((max a b : Nat) : Int) := fun a b => by split <;> omega
  cases f with
  | int i => exact ⟨rfl, fun _ => q, nofun⟩
  | x => exact ⟨rfl, fun _ => q, nofun⟩
  | y => exact ⟨rfl, fun _ => q, nofun⟩
  | pow a n =>
    simp only [FT.lev, FT.e] at hl he
    have e1 : a.e ≤ a.e * max 1 n := Nat.le_mul_of_pos_right _ (by omega)
    have e2 : max 1 n ≤ a.e * max 1 n := Nat.le_mul_of_pos_left _ a.e_pos
    have r := rch_le a
    have em : (if ((n : Nat) : Int) * ((rch a : Nat) : Int) > 1 then ((n : Nat) : Int) * ((rch a : Nat) : Int) else 1) = ((rch (.pow a n) : Nat) : Int) := by
      have e3 : ((n : Nat) : Int) * ((rch a : Nat) : Int) = ((n * rch a : Nat) : Int) := by exact_mod_cast rfl
      rw [e3]
      exact mx 1 (n * rch a)
    rw [← em] at q
    exact ⟨rfl, nofun, fun _ => ⟨_, rfl, fun _ => ⟨_, rfl, _, rfl, rfl, a, rfl, by omega, by omega, mulOk 64 64 (by rw [Int.natAbs_natCast]; omega) (by rw [Int.natAbs_natCast]; omega), q⟩, nofun⟩⟩
  | mul a b =>
    simp only [FT.lev, FT.e] at hl he
    exact ⟨rfl, nofun, fun _ => ⟨_, rfl, nofun, fun _ => ⟨_, rfl, rfl, a, rfl, by omega, by omega, _, rfl, rfl, b, rfl, by omega, by omega, _, rfl, fun _ => q, nofun⟩⟩⟩
  | add a b =>
    simp only [FT.lev, FT.e] at hl he
    have em := mx (rch a) (rch b)
    have q : Q (.d (.int ((max (rch a) (rch b) : Nat) : Int))) [] := q
    rw [← em] at q
    exact ⟨rfl, nofun, fun _ => ⟨_, rfl, nofun, fun _ => ⟨_, rfl, rfl, a, rfl, by omega, by omega, _, rfl, rfl, b, rfl, by omega, by omega, _, rfl, nofun, fun _ => q⟩⟩⟩
  | sub a b =>
    simp only [FT.lev, FT.e] at hl he
    have em := mx (rch a) (rch b)
    have q : Q (.d (.int ((max (rch a) (rch b) : Nat) : Int))) [] := q
    rw [← em] at q
    exact ⟨rfl, nofun, fun _ => ⟨_, rfl, nofun, fun _ => ⟨_, rfl, rfl, a, rfl, by omega, by omega, _, rfl, rfl, b, rfl, by omega, by omega, _, rfl, nofun, fun _ => q⟩⟩⟩
def S_greatW (d : Nat) : FSpec := ⟨fun args Q => ∃ f : FT, args = [.d f.pd] ∧ f.lev ≤ d ∧ d ≤ 50 ∧ f.e < 2 ^ 64 ∧ f.wf ∧ Q (.d (.int ((gr f : Nat) : Int))) []⟩
theorem S_greatW0 : ∀ args Q, ¬ (S_greatW 0).sp args Q := by
  rintro args Q ⟨f, _, h, _⟩
  have := f.lev_pos
  omega
theorem sp_greatW (d : Nat) : ∀ args Q, (S_greatW (d + 1)).sp args Q → ir_greatest_reach (S_reachW 50) S_inner (S_greatW d) (endsOf args Q) (rho0 N_greatest_reach args) := by
  rintro args Q ⟨f, rfl, hl, hd, he, hw, q⟩
  refine ⟨rfl, f, rfl, by omega, he, rfl, f, rfl, ?_⟩
  unfold innerF
  rw [if_pos hw.good]
  have kl : f.kids.length ≤ 2 := by cases f <;> simp [FT.kids]
  refine ⟨⟨rfl, rfl⟩, fun i acc ρ => acc = (f.kids.take i).map (fun k => PyData.int ((gr k : Nat) : Int)) ∧ ρ = [some (.d f.pd), none], ⟨rfl, rfl⟩, fun _ _ _ _ => trivial, ?_, ?_⟩
  · rintro i z acc ρ hz ⟨rfl, rfl⟩
    have hz : (f.kids.map FT.pd)[i]? = some z := hz
    rw [List.getElem?_map] at hz
    obtain ⟨k, hk, rfl⟩ := Option.map_eq_some_iff.mp hz
    have km := List.mem_of_getElem? hk
    obtain ⟨kw, kv⟩ := hw.kid k km
    have ke := kid_e km
    refine ⟨fun _ => ⟨rfl, k, rfl, by omega, by omega, by omega, kw, ?_, ?_, rfl⟩, nofun⟩
    · rw [List.length_map, List.length_take, sizeLine_eq]; omega
    · rw [List.take_add_one, hk, Option.toList_some, List.map_append]
      rfl
  · rintro acc ρ ⟨rfl, rfl⟩
    have el : (Wk.items (f.kids.map FT.pd)).list.length = f.kids.length := List.length_map _
    rw [el, List.take_length]
    refine ⟨?_, ((rch f : Nat) : Int) :: (f.kids.map fun k => ((gr k : Nat) : Int)), ?_, Nat.succ_pos _, fun m h1 h2 => ?_⟩
    · show 1 + (f.kids.map fun k => PyData.int ((gr k : Nat) : Int)).length ≤ sizeLine
      rw [List.length_map, sizeLine_eq]; omega
    · rw [List.map_cons, List.map_map]; rfl
    · rw [gr_max h1 h2]
      exact q
end DL
namespace DL
open PySem L2 PyProof.Rows
def S_hasformN : FSpec := ⟨fun args Q => ∃ f : FT, args = [.d f.pd] ∧ Q (.d (.bool (hf 16 [f] 0))) []⟩
abbrev N_has_form_N : List Str := ["value", "layer", "parts", "level", "later", "one", "lot"]
def ir_has_form_N (S_inner : FSpec) : TSt :=
  (sSeq (sPar 1 2 (fLst (aCons (.e (dVar 0)) aNil)) (fD (dC (.int 0))))
    (sSeq (sFor (iRg (aCons (.e (dC (.int 16))) aNil)) (.nm 3) (sSeq (sAsg 4 (fLst aNil))
    (sSeq (sFor (iSeq (dVar 1)) (.nm 5) (sSeq (sAsg 6 (fCall S_inner (aCons (.e (dVar 5)) aNil)))
    (sSeq (sAsg 2 (fD (dBin bAdd (.s 2) (.e (dC (.int 1))))))
    (sSeq (sIf (tOrD (tVal (dBin cIsN (.s 6) (.e (dC (.none))))) (tVal (dBin cGt (.s 2) (.e (dC (.int 200)))))) (sRet (fD (dC (.bool false)))) sNext)
    (sExtT 4 (.s 6))))))
    (sAsg 1 (fD (dVar 4))))))
    (sRet (fD (dBin (cNil false) (.s 1) (.e (dFz (fLst aNil))))))))
theorem sp_hasformN : ∀ args Q, S_hasformN.sp args Q → ir_has_form_N S_inner (endsOf args Q) (rho0 N_has_form_N args) := by
  rintro args Q ⟨f, rfl, q⟩
  refine ⟨by decide, _, rfl, fun i ρ => ∃ (layer : List FT) (p : Nat) (l : Lc) (s3 s4 s5 s6 : Option Lc), ρ = [some (.d f.pd), some l, some (.d (.int (p : Nat))), s3, s4, s5, s6] ∧ (l = .d (.list (layer.map FT.pd)) ∨ l = .ls none (layer.map FT.pd)) ∧ p ≤ 200 ∧ hf (16 - i) layer p = hf 16 [f] 0, ⟨[f], 0, _, none, none, none, none, rfl, .inr rfl, by decide, rfl⟩, ?_, ?_⟩
  · rintro i x ρ hx ⟨layer, p, l, s3, s4, s5, s6, rfl, hll, hp, hh⟩
    obtain ⟨rfl, hi⟩ := rngD_get hx
    have hi : i < 16 := hi
    obtain ⟨n, hn⟩ : ∃ n, 16 - i = n + 1 := ⟨15 - i, by omega⟩
    have n1 : 16 - (i + 1) = n := by omega
    rw [hn] at hh
    rcases hll with rfl | rfl
    all_goals
      refine ⟨_, rfl, fun j ρ => ∃ (later : List FT) (s5 s6 : Option Lc), ρ = [some (.d f.pd), some (.d (.list (layer.map FT.pd))), some (.d (.int ((p + j : Nat) : Int))), some (.d (.int (0 + (i : Nat)))), some (.ls none (later.map FT.pd)), s5, s6] ∧ later.length ≤ 2 * j ∧ (p + j ≤ 200 ∧ stepF (layer.drop j) (p + j) later = stepF layer p []), ⟨[], s5, s6, rfl, by decide, by omega, by rw [List.drop_zero]; rfl⟩, ?_, ?_⟩
      · rintro j z ρ hz ⟨later, s5, s6, rfl, hlen, hpj, hst⟩
        have hz : (layer.map FT.pd)[j]? = some z := hz
        rw [List.getElem?_map] at hz
        obtain ⟨g, hg, rfl⟩ := Option.map_eq_some_iff.mp hz
        have gm := List.mem_of_getElem? hg
        have dr : layer.drop j = g :: layer.drop (j + 1) := by
          obtain ⟨hj, e⟩ := List.getElem?_eq_some_iff.mp hg
          rw [List.drop_eq_getElem_cons hj, e]
        rw [dr, stepF] at hst
        have no : ¬ (g.good1 = true ∧ p + j + 1 ≤ 200) → hf 16 [f] 0 = false := fun c => by
          rw [if_neg c] at hst
          rw [← hh, hf, ← hst]
        have ej : ((p + j : Nat) : Int) + 1 = ((p + (j + 1) : Nat) : Int) := by omega
        refine ⟨rfl, g, rfl, ⟨rfl, fun h => ⟨fun _ => ?_, nofun⟩, fun h => ⟨fun h2 => ?_, fun h2 => ?_⟩⟩⟩
        · have h : isNone (innerF g) = true := h
          have c : hf 16 [f] 0 = false := no fun c => by unfold innerF at h; rw [if_pos c.1] at h; cases h
          rw [c] at q
          exact q
        · have h2 : (200 : Int) < ((p + j : Nat) : Int) + 1 := of_decide_eq_true h2
          have c : hf 16 [f] 0 = false := no fun c => by omega
          rw [c] at q
          exact q
        · have h : isNone (innerF g) = false := h
          have h2 : ¬ (200 : Int) < ((p + j : Nat) : Int) + 1 := of_decide_eq_false h2
          have gg : g.good1 = true := by
            unfold innerF at h
            split at h
            · assumption
            · cases h
          have ei : innerF g = .tuple (g.kids.map FT.pd) := by unfold innerF; rw [if_pos gg]
          rw [if_pos ⟨gg, by omega⟩] at hst
          have kl : g.kids.length ≤ 2 := by cases g <;> simp [FT.kids]
          rw [ei]
          refine ⟨?_, later ++ g.kids, some (.d g.pd), some (.d (.tuple (g.kids.map FT.pd))), ?_, by rw [List.length_append]; omega, by omega, hst⟩
          · show (later.map FT.pd).length + (g.kids.map FT.pd).length ≤ sizeLine
            rw [List.length_map, List.length_map, sizeLine_eq]; omega
          · rw [List.map_append, ← ej]
            rfl
      · rintro ρ ⟨later, s5, s6, rfl, hlen, hpj, hst⟩
        have el : (layer.map FT.pd).length = layer.length := List.length_map _
        rw [el] at hpj hst hlen
        rw [List.drop_length, stepF] at hst
        rw [el]
        refine ⟨later, p + layer.length, _, _, _, _, _, rfl, .inl rfl, hpj, ?_⟩
        rw [n1, ← hh, hf, ← hst]
  · rintro ρ ⟨layer, p, l, s3, s4, s5, s6, rfl, hll, hp, hh⟩
    have el : (rngD 0 ((16 : Int)).toNat).length = 16 := rngD_len
    rw [el, Nat.sub_self, hf] at hh
    rw [← hh] at q
    have e : (layer.map FT.pd).isEmpty = layer.isEmpty := List.isEmpty_map
    rw [← e] at q
    rcases hll with rfl | rfl
    · exact q
    · exact q
def S_isform2 : FSpec := ⟨fun args Q => ∃ f : FT, args = [.d f.pd] ∧ f.lev ≤ 4000 ∧ (hf 16 [f] 0 = true → f.e < 2 ^ 64) ∧ Q (.d (.bool (isF f))) []⟩
theorem sp_isform2 : ∀ args Q, S_isform2.sp args Q → ir_is_formula (S_greatW 50) S_hasformN (endsOf args Q) (rho0 N_is_formula args) := by
  rintro args Q ⟨f, rfl, hl, he, q⟩
  refine ⟨rfl, f, rfl, fun h => ?_, fun h => ?_⟩
  · have h : hf 16 [f] 0 = true := h
    have w := FT.wfb_wf ((hf_one f).mp h).2.1
    have e : isF f = decide (((gr f : Nat) : Int) ≤ 16) := by unfold isF; rw [h, Bool.true_and]
    rw [e] at q
    exact ⟨rfl, f, rfl, by have := ((hf_one f).mp h).1; omega, by decide, he h, w, q⟩
  · have h : hf 16 [f] 0 = false := h
    have e : isF f = false := by unfold isF; rw [h, Bool.false_and]
    rw [e] at q
    exact q
def rdE (n : Nat) : Except Nat (FT × Nat) → Except Int FT
  | .error e => .error (e : Nat)
  | .ok (w, k) => if k < n then .error (k : Nat) else if isF w = true then .ok w else .error (-1)
theorem rdE_ok (n : Nat) (w : FT) (k : Nat) : rdE n (.ok (w, k)) = if k < n then .error ((k : Nat) : Int) else if isF w = true then .ok w else .error (-1) := rfl
def S_readX (CB : Addr) : XSpec := ⟨fun args Q E => ∃ (z : Str) (r : Except Nat (FT × Nat)), args = [.d (.str z)] ∧ z.length ≤ 1000000 ∧ D640 (cl z) ∧ Reads (cl z) 4000 [] 0 r ∧
  (∀ w k, r = .ok (w, k) → w.lev ≤ 4000 ∧ (hf 16 [w] 0 = true → w.e < 2 ^ 64)) ∧ (∀ w, rdE z.length r = .ok w → Q (.d w.pd) []) ∧ (∀ e, rdE z.length r = .error e → E (CB, [(.str "at", .int e)]) [])⟩
abbrev N_read_formula_e : List Str := ["text", "reader", "found"]
def ir_read_formula_e (C_Reader : Addr) (C_BadText : Addr) (S_read_whole_e : XSpec) (S_is_formula : FSpec) (S_m_Reader_init : FSpec) (u : Xd → En → Prop) : TSt :=
  (sSeq (sAsg 1 (fMake C_Reader S_m_Reader_init [] (aCons (.e (dVar 0)) aNil)))
    (sSeq (sAsg 2 (fCallX S_read_whole_e u (aCons (.s 1) aNil)))
    (sSeq (sIf (tVal (dBin cLt (.e (dFldS C_Reader 1 "at")) (.e (dBi bLen (aCons (.s 0) aNil))))) (sRaise C_BadText ["at"] u (aCons (.e (dFldS C_Reader 1 "at")) aNil)) sNext)
    (sSeq (sIf (tNotD (tVal (dFz (fCall S_is_formula (aCons (.e (dVar 2)) aNil))))) (sRaise C_BadText ["at"] u (aCons (.e (dNeg (.e (dC (.int 1))))) aNil)) sNext)
    (sRetV 2)))))
theorem sp_readX (C CB : Addr) : ∀ args Q E, (S_readX CB).sp args Q E → ir_read_formula_e C CB (S_wholeX C CB) S_isform2 (S_rinit C) (endsX args E) (endsOf args Q) (rho0 N_read_formula_e args) := by
  rintro args Q E ⟨z, r, rfl, hz, d6, hr, lv, q, qe⟩
  have bigS : sizeLine = 16777216 := sizeLine_eq
  refine ⟨z, rfl, rfl, _, rfl, ?_⟩
  refine ⟨rfl, z, r, rfl, hz, d6, hr, fun w k he hk => ?_, fun e he i' => ?_⟩
  · subst he
    obtain ⟨l1, l2⟩ := lv w k rfl
    refine ⟨rfl, _, rfl, by omega, fun h => ?_, fun h => ?_⟩
    · have h : ((k : Nat) : Int) < ((z.length : Nat) : Int) := of_decide_eq_true h
      refine ⟨rfl, _, rfl, rfl, qe _ ?_⟩
      rw [rdE_ok]
      rw [if_pos (by omega)]
    · have h : ¬ ((k : Nat) : Int) < ((z.length : Nat) : Int) := of_decide_eq_false h
      refine ⟨rfl, w, rfl, by omega, l2, fun h2 => ?_, fun h2 => ?_⟩
      · have h2 : (!isF w) = true := h2
        refine ⟨rfl, qe _ ?_⟩
        rw [rdE_ok]
        rw [if_neg (by omega), if_neg (by intro c; rw [c] at h2; cases h2)]
      · have h2 : (!isF w) = false := h2
        refine q w ?_
        rw [rdE_ok]
        rw [if_neg (by omega), if_pos (by cases c : isF w <;> rw [c] at h2 <;> first | rfl | cases h2)]
  · subst he
    exact qe _ rfl
def askD : Except Int FT → PD
  | .ok w => .tuple [.str "is", w.pd]
  | .error e => .tuple [.str "at", .int e]
def S_asked : FSpec := ⟨fun args Q => ∃ (z : Str) (r : Except Nat (FT × Nat)), args = [.d (.str z)] ∧ z.length ≤ 1000000 ∧ D640 (cl z) ∧ Reads (cl z) 4000 [] 0 r ∧
  (∀ w k, r = .ok (w, k) → w.lev ≤ 4000 ∧ (hf 16 [w] 0 = true → w.e < 2 ^ 64)) ∧ Q (.d (askD (rdE z.length r))) []⟩
abbrev N_law_asked_b98b_e : List Str := ["text", "e"]
def ir_law_asked_b98b_e (C_HourError : Addr) (C_BadText : Addr) (S_read_formula_e : XSpec) : TSt :=
  (sTry (fun u => (sRet (fD (dTup (aCons (.e (dC (.str "is"))) (aCons (.e (dFz (fCallX S_read_formula_e u (aCons (.e (dVar 0)) aNil)))) aNil)))))) (⟨[(C_BadText, true)], some 1, fun a C d => (sRet (fD (dIte (tAndD (tVal (dXi C_BadText true a C d 1)) (tVal (dXi C_BadText true a C d 1))) (dTup (aCons (.e (dC (.str "at"))) (aCons (.e (dXf C_BadText a C d 1 "at")) aNil))) (dTup (aCons (.e (dC (.str "other"))) (aCons (.e (dC (.int 0))) aNil))))))⟩ :: []))
theorem sp_asked (CH CB : Addr) : ∀ args Q, S_asked.sp args Q → ir_law_asked_b98b_e CH CB (S_readX CB) (endsOf args Q) (rho0 N_law_asked_b98b_e args) := by
  rintro args Q ⟨z, r, rfl, hz, d6, hr, lv, q⟩
  refine ⟨rfl, z, r, rfl, hz, d6, hr, lv, fun w e => ?_, fun e he => ⟨true, List.mem_cons_self, nofun, fun _ a dd hd => ?_⟩⟩
  · rw [e] at q
    exact q
  · rw [he] at q
    exact ⟨rfl, _, rfl, fun _ => ⟨rfl, _, rfl, fun _ => ⟨rfl, _, _, rfl, hd, rfl, q⟩, nofun⟩, nofun⟩
theorem one_sign : ("(" : Str).length = 1 ∧ (")" : Str).length = 1 ∧ ("+" : Str).length = 1 ∧ ("-" : Str).length = 1 ∧ ("*" : Str).length = 1 ∧ ("^" : Str).length = 1 := by decide
theorem int_len {i : Int} {k : Nat} (h : i.natAbs < 2 ^ k) (h0 : 0 < k) : (Str.ofString (toString i)).length ≤ k + 1 := by
  rw [PySem.ofString_length]
  exact int_text_length_le h0 (log2_lt h h0)
theorem textF_len : ∀ {f : FT}, f.le 2000 → f.e < 2 ^ 20 → (textF f).length ≤ f.sz 2000
  | .int i, h, _ => by
    have := int_len h (by decide)
    show (Str.ofString (toString i)).length ≤ 2003
    omega
  | .x, _, _ => by show ("x" : Str).length ≤ 2003; decide
  | .y, _, _ => by show ("y" : Str).length ≤ 2003; decide
  | .add a b, h, he => by
    simp only [FT.e] at he
    have h1 := textF_len h.1 (by omega)
    have h2 := textF_len h.2 (by omega)
    have s := one_sign
    simp only [textF, strLen_append, FT.sz]
    omega
  | .sub a b, h, he => by
    simp only [FT.e] at he
    have h1 := textF_len h.1 (by omega)
    have h2 := textF_len h.2 (by omega)
    have s := one_sign
    simp only [textF, strLen_append, FT.sz]
    omega
  | .mul a b, h, he => by
    simp only [FT.e] at he
    have h1 := textF_len h.1 (by omega)
    have h2 := textF_len h.2 (by omega)
    have s := one_sign
    simp only [textF, strLen_append, FT.sz]
    omega
  | .pow a n, h, he => by
    simp only [FT.e] at he
    have e1 : a.e ≤ a.e * max 1 n := Nat.le_mul_of_pos_right _ (by omega)
    have e2 : max 1 n ≤ a.e * max 1 n := Nat.le_mul_of_pos_left _ a.e_pos
    have h1 := textF_len (f := a) h (by omega)
    have h2 := int_len (i := ((n : Nat) : Int)) (k := 20) (by rw [Int.natAbs_natCast]; omega) (by decide)
    have s := one_sign
    simp only [textF, strLen_append, FT.sz]
    omega
def okS (s : Str) : Prop := ∀ c ∈ s.cps.toList, c < 16 ^ 8
theorem okS.of (s : String) : okS (Str.ofString s) := fun c hc => by
  rw [PySem.Str.ofString_eq_toList] at hc
  have hc : c ∈ (s.toList.map Char.toNat).toArray.toList := hc
  obtain ⟨d, _, rfl⟩ := List.mem_map.mp hc
  exact d.val.toNat_lt
theorem okS.app {s t : Str} (h : okS s) (h2 : okS t) : okS (s ++ t) := fun c hc => by
  have e : (s ++ t).cps.toList = s.cps.toList ++ t.cps.toList := by
    show (s.cps ++ t.cps).toList = _
    simp
  rw [e] at hc
  exact (List.mem_append.mp hc).elim (h c) (h2 c)
def FT.wr (d : Nat) (f : FT) : Prop := f.lev ≤ d ∧ f.le 2000 ∧ f.e < 2 ^ 20 ∧ f.sz 2000 ≤ 900000
theorem wr_bin {d : Nat} {a b : FT} (h : (FT.add a b).wr (d + 1) ∨ (FT.sub a b).wr (d + 1) ∨ (FT.mul a b).wr (d + 1)) : a.wr d ∧ b.wr d := by
  rcases h with ⟨h1, h2, h3, h4⟩ | ⟨h1, h2, h3, h4⟩ | ⟨h1, h2, h3, h4⟩ <;> simp only [FT.lev, FT.e, FT.sz] at h1 h3 h4 <;> exact ⟨⟨by omega, h2.1, by omega, by omega⟩, by omega, h2.2, by omega, by omega⟩
theorem wr_pow {d n : Nat} {a : FT} (h : (FT.pow a n).wr (d + 1)) : a.wr d ∧ n < 2 ^ 20 := by
  obtain ⟨h1, h2, h3, h4⟩ := h
  simp only [FT.lev, FT.e, FT.sz] at h1 h3 h4
  have e1 : a.e ≤ a.e * max 1 n := Nat.le_mul_of_pos_right _ (by omega)
  have e2 : max 1 n ≤ a.e * max 1 n := Nat.le_mul_of_pos_left _ a.e_pos
  exact ⟨⟨by omega, h2, by omega, by omega⟩, by omega⟩
theorem wr_len {d : Nat} {f : FT} (h : f.wr d) : (textF f).length ≤ 900000 := Nat.le_trans (textF_len h.2.1 h.2.2.1) h.2.2.2
def S_text (d : Nat) : FSpec := ⟨fun args Q => ∃ f : FT, args = [.d f.pd] ∧ f.wr d ∧ Q (.d (.str (textF f))) []⟩
theorem S_text0 : ∀ args Q, ¬ (S_text 0).sp args Q := by
  rintro args Q ⟨f, _, h, _⟩
  have := f.lev_pos
  have := h.1
  omega
theorem big_4300 : 2 ^ 2000 ≤ 10 ^ 4300 := by decide +kernel
theorem fig_ok {i : Int} (h : i.natAbs < 2 ^ 2000) : i.natAbs < 10 ^ 4300 := Nat.lt_of_lt_of_le h big_4300
theorem fig_nat {n : Nat} (h : n < 2 ^ 20) : ((n : Nat) : Int).natAbs < 10 ^ 4300 := fig_ok (by rw [Int.natAbs_natCast]; exact Nat.lt_of_lt_of_le h (Nat.pow_le_pow_right (by decide) (by decide)))
theorem cat4 {s a t b u : Str} (h1 : a.length ≤ 900000) (h2 : b.length ≤ 900000) (hs : s.length = 1) (ht : t.length = 1) (hu : u.length = 1) : s.length + a.length ≤ sizeLine ∧ (s ++ a).length + t.length ≤ sizeLine ∧ (s ++ a ++ t).length + b.length ≤ sizeLine ∧ (s ++ a ++ t ++ b).length + u.length ≤ sizeLine := by
  simp only [strLen_append, sizeLine_eq]
  omega
abbrev N_law_written_9dd1 : List Str := ["formula", "last"]
def ir_law_written_9dd1 (S_law_written_9dd1 : FSpec) : TSt :=
  (sSeq (sIf (tNotD (tVal (dIsi "tuple" (.s 0)))) (sRet (fD (dBi bStrW (aCons (.s 0) aNil)))) sNext)
    (sSeq (sAsg 1 (fD (dIte (tVal (dBin cEq (.e (dBin bIx (.s 0) (.e (dC (.int 0))))) (.e (dC (.str "pow"))))) (dBi bStrW (aCons (.e (dBin bIx (.s 0) (.e (dC (.int 2))))) aNil)) (dFz (fCall S_law_written_9dd1 (aCons (.e (dBin bIx (.s 0) (.e (dC (.int 2))))) aNil))))))
    (sRet (fD (dBin bAdd (.e (dBin bAdd (.e (dBin bAdd (.e (dBin bAdd (.e (dC (.str "("))) (.e (dFz (fCall S_law_written_9dd1 (aCons (.e (dBin bIx (.s 0) (.e (dC (.int 1))))) aNil)))))) (.e (dIxF (fDict [.inr "add", .inr "sub", .inr "mul", .inr "pow"] [(dC (.str "+")), (dC (.str "-")), (dC (.str "*")), (dC (.str "^"))]) (.e (dBin bIx (.s 0) (.e (dC (.int 0))))))))) (.s 1))) (.e (dC (.str ")"))))))))
theorem sp_written (d : Nat) : ∀ args Q, (S_text (d + 1)).sp args Q → ir_law_written_9dd1 (S_text d) (endsOf args Q) (rho0 N_law_written_9dd1 args) := by
  rintro args Q ⟨f, rfl, w, q⟩
  have s := one_sign
  cases f with
  | int i => exact ⟨rfl, fun _ => ⟨fig_ok w.2.1, q⟩, nofun⟩
  | x => exact ⟨rfl, fun _ => q, nofun⟩
  | y => exact ⟨rfl, fun _ => q, nofun⟩
  | pow a n =>
    obtain ⟨wa, hn⟩ := wr_pow w
    have c := cat4 (s := "(") (t := "^") (u := ")") (wr_len wa) (b := Str.ofString (toString ((n : Nat) : Int))) (by have := int_len (i := ((n : Nat) : Int)) (k := 20) (by rw [Int.natAbs_natCast]; omega) (by decide); omega) s.1 s.2.2.2.2.2 s.2.1
    exact ⟨rfl, nofun, fun _ => ⟨_, rfl, fun _ => ⟨_, rfl, fig_nat hn, _, rfl, rfl, a, rfl, wa, c.1, _, rfl, .inr "pow", .str "^", rfl, rfl, c.2.1, c.2.2.1, c.2.2.2, q⟩, nofun⟩⟩
  | mul a b =>
    obtain ⟨wa, wb⟩ := wr_bin (.inr (.inr w))
    have c := cat4 (s := "(") (t := "*") (u := ")") (wr_len wa) (wr_len wb) s.1 s.2.2.2.2.1 s.2.1
    exact ⟨rfl, nofun, fun _ => ⟨_, rfl, nofun, fun _ => ⟨_, rfl, rfl, b, rfl, wb, _, rfl, rfl, a, rfl, wa, c.1, _, rfl, .inr "mul", .str "*", rfl, rfl, c.2.1, c.2.2.1, c.2.2.2, q⟩⟩⟩
  | add a b =>
    obtain ⟨wa, wb⟩ := wr_bin (.inl w)
    have c := cat4 (s := "(") (t := "+") (u := ")") (wr_len wa) (wr_len wb) s.1 s.2.2.1 s.2.1
    exact ⟨rfl, nofun, fun _ => ⟨_, rfl, nofun, fun _ => ⟨_, rfl, rfl, b, rfl, wb, _, rfl, rfl, a, rfl, wa, c.1, _, rfl, .inr "add", .str "+", rfl, rfl, c.2.1, c.2.2.1, c.2.2.2, q⟩⟩⟩
  | sub a b =>
    obtain ⟨wa, wb⟩ := wr_bin (.inr (.inl w))
    have c := cat4 (s := "(") (t := "-") (u := ")") (wr_len wa) (wr_len wb) s.1 s.2.2.2.1 s.2.1
    exact ⟨rfl, nofun, fun _ => ⟨_, rfl, nofun, fun _ => ⟨_, rfl, rfl, b, rfl, wb, _, rfl, rfl, a, rfl, wa, c.1, _, rfl, .inr "sub", .str "-", rfl, rfl, c.2.1, c.2.2.1, c.2.2.2, q⟩⟩⟩
theorem le_more {m k : Nat} (h : m ≤ k) : ∀ {f : FT}, f.le m → f.le k
  | .int _, q => Nat.lt_of_lt_of_le q (Nat.pow_le_pow_right (by decide) h)
  | .x, _ => trivial
  | .y, _ => trivial
  | .add _ _, q => ⟨le_more h q.1, le_more h q.2⟩
  | .sub _ _, q => ⟨le_more h q.1, le_more h q.2⟩
  | .mul _ _, q => ⟨le_more h q.1, le_more h q.2⟩
  | .pow a _, q => le_more (f := a) h q
end DL
namespace DL
open PySem L2 PyProof.Rows
def cnt (l : List Nat) : Nat := l.count 40
def wt : Stk → Nat
  | [] => 0
  | none :: r => 1 + wt r
  | some (_, a) :: r => a.lev + wt r
theorem W3.lev (w : W3) (a b : FT) : (w.ft a b).lev = max a.lev b.lev + 1 := by cases w <;> rfl
theorem wt_up {t : List Nat} : ∀ {s : Stk} {v : FT} {i : Nat}, v.lev + wt s ≤ 4000 → UpOk t 4000 s v i
  | [], v, i, h => by
    have h : v.lev + 0 ≤ 4000 := h
    exact h
  | some (w, a) :: r, v, i, h => by
    have h : v.lev + (a.lev + wt r) ≤ 4000 := h
    have := a.lev_pos
    have := v.lev_pos
    have e := w.lev a v
    exact ⟨by omega, fun _ => wt_up (by omega)⟩
  | none :: r, v, i, h => by
    have h : v.lev + (1 + wt r) ≤ 4000 := h
    exact ⟨by omega, fun b n _ _ _ => wt_up (by show v.lev + 1 + wt r ≤ 4000; omega)⟩
theorem wt_len : ∀ s : Stk, s.length ≤ wt s
  | [] => Nat.le_refl _
  | none :: r => by have := wt_len r; show r.length + 1 ≤ 1 + wt r; omega
  | some (w, a) :: r => by have := wt_len r; have := a.lev_pos; show r.length + 1 ≤ a.lev + wt r; omega
theorem wt_mem : ∀ {s : Stk} {w : W3} {a : FT}, some (w, a) ∈ s → a.lev ≤ wt s
  | none :: r, w, a, h => by
    rcases List.mem_cons.mp h with e | h
    · cases e
    · have := wt_mem h; show a.lev ≤ 1 + wt r; omega
  | some (w2, b) :: r, w, a, h => by
    rcases List.mem_cons.mp h with e | h
    · cases e; exact Nat.le_add_right _ _
    · have := wt_mem h; show a.lev ≤ b.lev + wt r; omega
theorem wt_ok {s : Stk} (h : wt s ≤ 4000) : StOk 4000 s := ⟨by have := wt_len s; omega, fun w a hm => by have := wt_mem hm; omega⟩
theorem up_wt {t : List Nat} : ∀ {s s' : Stk} {v w : FT} {i j : Nat}, upM t s v i = .ok (s', w, j) → (s' = [] → w.lev ≤ v.lev + wt s) ∧ (s' ≠ [] → wt s' + 1 ≤ v.lev + wt s)
  | [], _, v, _, i, _, h => by
    cases h
    exact ⟨fun _ => Nat.le_add_right _ _, fun h => absurd rfl h⟩
  | some (w, a) :: r, s', v, w', i, j, h => by
    unfold upM at h
    split at h
    · obtain ⟨h1, h2⟩ := up_wt h
      have e := w.lev a v
      have := a.lev_pos
      have := v.lev_pos
      have ew : wt (some (w, a) :: r) = a.lev + wt r := rfl
      exact ⟨fun q => by have := h1 q; omega, fun q => by have := h2 q; omega⟩
    · cases h
  | none :: r, s', v, w', i, j, h => by
    have ew : wt (none :: r) = 1 + wt r := rfl
    unfold upM at h
    split at h
    · cases h
    · split at h
      · cases h
        refine ⟨nofun, fun _ => ?_⟩
        show v.lev + wt r + 1 ≤ v.lev + wt (none :: r)
        omega
      · split at h
        · split at h
          · cases h
          · split at h
            · obtain ⟨h1, h2⟩ := up_wt h
              have e : ∀ n, (FT.pow v n).lev = v.lev + 1 := fun _ => rfl
              rw [e] at h1 h2
              exact ⟨fun q => by have := h1 q; omega, fun q => by have := h2 q; omega⟩
            · cases h
        · cases h
def wz : Stk → Nat
  | [] => 0
  | none :: r => wz r
  | some (_, a) :: r => a.size + wz r
theorem W3.size (w : W3) (a b : FT) : (w.ft a b).size = a.size + b.size + 1 := by cases w <;> rfl
theorem up_wz {t : List Nat} : ∀ {s s' : Stk} {v w : FT} {i j : Nat}, upM t s v i = .ok (s', w, j) → i ≤ j ∧ (s' = [] → w.size + i ≤ v.size + wz s + j) ∧ (s' ≠ [] → wz s' + i ≤ v.size + wz s + j)
  | [], _, v, _, i, _, h => by
    cases h
    exact ⟨Nat.le_refl _, fun _ => Nat.le_refl _, fun h => absurd rfl h⟩
  | some (w, a) :: r, s', v, w', i, j, h => by
    unfold upM at h
    split at h
    · obtain ⟨h0, h1, h2⟩ := up_wz h
      have e := w.size a v
      have ew : wz (some (w, a) :: r) = a.size + wz r := rfl
      exact ⟨by omega, fun q => by have := h1 q; omega, fun q => by have := h2 q; omega⟩
    · cases h
  | none :: r, s', v, w', i, j, h => by
    have ew : wz (none :: r) = wz r := rfl
    unfold upM at h
    split at h
    · cases h
    · split at h
      · cases h
        refine ⟨Nat.le_succ _, nofun, fun _ => ?_⟩
        show v.size + wz r + i ≤ v.size + wz (none :: r) + (i + 1)
        omega
      · split at h
        · split at h
          · cases h
          · rename_i b n hf
            have := figM_le hf
            split at h
            · obtain ⟨h0, h1, h2⟩ := up_wz h
              have e : (FT.pow v n).size = v.size + 1 := rfl
              rw [e] at h1 h2
              exact ⟨by omega, fun q => by have := h1 q; omega, fun q => by have := h2 q; omega⟩
            · cases h
        · cases h
theorem leafM_lev {t : List Nat} {i j : Nat} {v : FT} (h : leafM t i = .ok (v, j)) : v.lev = 1 := by
  unfold leafM at h
  split at h
  · cases h; rfl
  · split at h
    · cases h; rfl
    · split at h
      · cases e : figM t true (i + 1) with
        | none => rw [e] at h; cases h
        | some p => obtain ⟨b, n⟩ := p; rw [e] at h; cases h; rfl
      · cases e : figM t false i with
        | none => rw [e] at h; cases h
        | some p => obtain ⟨b, n⟩ := p; rw [e] at h; cases h; rfl
theorem figE_err {neg : Bool} {e e' : Nat} {o : Option (Nat × Nat)} (h : figE neg e o = .error e') : e' = e := by
  cases o with
  | none => cases h; rfl
  | some p => cases h
theorem leafM_err {t : List Nat} {i e : Nat} (hi : i ≤ t.length) (h : leafM t i = .error e) : e ≤ t.length := by
  unfold leafM at h
  split at h
  · cases h
  · split at h
    · cases h
    · split at h
      · rename_i e45
        have := (List.getElem?_eq_some_iff.mp e45).1
        rw [figE_err h]; omega
      · rw [figE_err h]; exact hi
theorem upM_err {t : List Nat} : ∀ {s : Stk} {v : FT} {i e : Nat}, i ≤ t.length → upM t s v i = .error e → e ≤ t.length
  | [], v, i, e, _, h => by cases h
  | some (w, a) :: r, v, i, e, hi, h => by
    unfold upM at h
    split at h
    · rename_i e2
      have := (List.getElem?_eq_some_iff.mp e2).1
      exact upM_err (show i + 1 ≤ t.length by omega) h
    · cases h; exact hi
  | none :: r, v, i, e, hi, h => by
    unfold upM at h
    cases e1 : t[i]? with
    | none => rw [e1] at h; cases h; exact hi
    | some c =>
      rw [e1] at h
      have := (List.getElem?_eq_some_iff.mp e1).1
      dsimp only at h
      split at h
      · cases h
      · split at h
        · split at h
          · cases h; omega
          · rename_i b n hf
            have := figM_le hf
            split at h
            · rename_i e2
              have := (List.getElem?_eq_some_iff.mp e2).1
              exact upM_err (show b + 1 ≤ t.length by omega) h
            · cases h; omega
        · cases h; exact hi
theorem cnt_mono {t : List Nat} {i j : Nat} (h : i ≤ j) : cnt (t.take i) ≤ cnt (t.take j) := by
  have e : t.take i = (t.take j).take i := by rw [List.take_take, Nat.min_eq_left h]
  rw [e]
  exact (List.take_sublist _ _).count_le _
theorem cnt_all (t : List Nat) (i : Nat) : cnt (t.take i) ≤ cnt t := (List.take_sublist _ _).count_le _
theorem cnt_open {t : List Nat} {i : Nat} (h : t[i]? = some 40) : cnt (t.take (i + 1)) = cnt (t.take i) + 1 := by
  unfold cnt
  rw [List.take_add_one, h, List.count_append]
  rfl
theorem lev_size {f : FT} (h : f.lev = 1) : f.size = 1 := by
  cases f with
  | int i => rfl
  | x => rfl
  | y => rfl
  | add a b => have := a.lev_pos; simp only [FT.lev] at h; omega
  | sub a b => have := a.lev_pos; simp only [FT.lev] at h; omega
  | mul a b => have := a.lev_pos; simp only [FT.lev] at h; omega
  | pow a n => have := a.lev_pos; simp only [FT.lev] at h; omega
theorem total {t : List Nat} (hc : cnt t ≤ 3999) : ∀ (n i : Nat) (s : Stk), t.length - i ≤ n → i ≤ t.length → wt s ≤ cnt (t.take i) → wz s ≤ i → ∃ r, Reads t 4000 s i r ∧ (∀ w k, r = .ok (w, k) → w.lev ≤ 1 + cnt t ∧ k ≤ t.length ∧ w.size ≤ t.length) ∧ ∀ e, r = .error e → e ≤ t.length := fun n => by
  induction n with
  | zero =>
    intro i s h1 h2 hw hz
    have hi : i = t.length := by omega
    have n0 : t[i]? = none := List.getElem?_eq_none (by omega)
    cases hl : leafM t i with
    | error e => exact ⟨_, .bad (by rw [n0]; nofun) hl, nofun, fun e' q => by cases q; exact leafM_err h2 hl⟩
    | ok p =>
      obtain ⟨v, j⟩ := p
      have := leafM_le hl
      omega
  | succ n ih =>
    intro i s h1 h2 hw hz
    have ha := cnt_all t i
    by_cases ho : t[i]? = some 40
    · have il := (List.getElem?_eq_some_iff.mp ho).1
      have w1 : wt (none :: s) ≤ cnt (t.take (i + 1)) := by rw [cnt_open ho]; show 1 + wt s ≤ _; omega
      have := cnt_all t (i + 1)
      obtain ⟨r, h3, h4⟩ := ih (i + 1) (none :: s) (by omega) (by omega) w1 (by show wz s ≤ i + 1; omega)
      exact ⟨r, .push ho (wt_ok (by omega)) h3, h4⟩
    · cases hl : leafM t i with
      | error e => exact ⟨_, .bad ho hl, nofun, fun e' q => by cases q; exact leafM_err h2 hl⟩
      | ok p =>
        obtain ⟨v, j⟩ := p
        have jl := leafM_le hl
        have v1 := leafM_lev hl
        have so : StOk 4000 s := wt_ok (by omega)
        have uo : UpOk t 4000 s v j := wt_up (by omega)
        cases hu : upM t s v j with
        | error e => exact ⟨_, .badUp ho hl so uo hu, nofun, fun e' q => by cases q; exact upM_err jl.2 hu⟩
        | ok p =>
          obtain ⟨s', w, k⟩ := p
          have kl := upM_le jl.2 hu
          obtain ⟨g1, g2⟩ := up_wt hu
          obtain ⟨z0, z1, z2⟩ := up_wz hu
          have v2 := lev_size v1
          by_cases hs : s' = []
          · subst hs
            have := g1 rfl
            have := z1 rfl
            exact ⟨_, .done ho hl so uo hu, fun w2 k2 e => by cases e; exact ⟨by omega, kl.2, by omega⟩, nofun⟩
          · have := g2 hs
            have := z2 hs
            have m := cnt_mono (t := t) (show i ≤ k by omega)
            have := cnt_all t k
            obtain ⟨r, h3, h4⟩ := ih k s' (by omega) kl.2 (by omega) (by omega)
            exact ⟨r, .more ho hl so uo hu hs (wt_ok (by omega)) h3, h4⟩
theorem total0 {t : List Nat} (hc : cnt t ≤ 3999) : ∃ r, Reads t 4000 [] 0 r ∧ (∀ w k, r = .ok (w, k) → w.lev ≤ 1 + cnt t ∧ k ≤ t.length ∧ w.size ≤ t.length) ∧ ∀ e, r = .error e → e ≤ t.length := total hc t.length 0 [] (by omega) (Nat.zero_le _) (Nat.zero_le _) (Nat.zero_le _)
theorem int_len41 {k : Int} (h : k.natAbs < 10 ^ 40) : (intL k).length ≤ 41 := by
  cases k with
  | ofNat m => have := TL.numL_len (k := 40) (by decide) (show m < 10 ^ 40 from h); show (TL.numL m).length ≤ 41; omega
  | negSucc m =>
    have := TL.numL_len (k := 40) (by decide) (show m + 1 < 10 ^ 40 from h)
    show (TL.numL (m + 1)).length + 1 ≤ 41
    omega
theorem len_text : ∀ {f : FT}, f.wf → (textL f).length + 3 ≤ 44 * 2 ^ (f.lev - 1)
  | .int k, h => by have := int_len41 (k := k) h; show (intL k).length + 3 ≤ 44; omega
  | .x, _ => by decide
  | .y, _ => by decide
  | .add a b, h => key (c := 43) (len_text h.1) (len_text h.2)
  | .sub a b, h => key (c := 45) (len_text h.1) (len_text h.2)
  | .mul a b, h => key (c := 42) (len_text h.1) (len_text h.2)
  | .pow a n, h => by
    have h1 := len_text (f := a) h.1
    have hn : n ≤ 16 := h.2
    have h2 := TL.numL_len (n := n) (k := 2) (by decide) (by omega)
    have := a.lev_pos
    have p : 2 ^ (a.lev - 1) * 2 = 2 ^ a.lev := by rw [← Nat.pow_succ, show (a.lev - 1).succ = a.lev by omega]
    show (40 :: (textL a ++ 94 :: (TL.numL n ++ [41]))).length + 3 ≤ 44 * 2 ^ (a.lev + 1 - 1)
    have : 1 ≤ 2 ^ (a.lev - 1) := Nat.pow_pos (by decide)
    simp only [List.length_cons, List.length_append, List.length_nil, Nat.add_sub_cancel]
    omega
where
  key {a b : FT} {c : Nat} (h1 : (textL a).length + 3 ≤ 44 * 2 ^ (a.lev - 1)) (h2 : (textL b).length + 3 ≤ 44 * 2 ^ (b.lev - 1)) : (40 :: (textL a ++ c :: (textL b ++ [41]))).length + 3 ≤ 44 * 2 ^ (max a.lev b.lev + 1 - 1) := by
    have l1 := a.lev_pos
    have l2 := b.lev_pos
    have m1 : 2 ^ (a.lev - 1) ≤ 2 ^ (max a.lev b.lev - 1) := Nat.pow_le_pow_right (by decide) (by omega)
    have m2 : 2 ^ (b.lev - 1) ≤ 2 ^ (max a.lev b.lev - 1) := Nat.pow_le_pow_right (by decide) (by omega)
    have p : 2 ^ (max a.lev b.lev - 1) * 2 = 2 ^ max a.lev b.lev := by rw [← Nat.pow_succ, show (max a.lev b.lev - 1).succ = max a.lev b.lev by omega]
    simp only [List.length_cons, List.length_append, List.length_nil, Nat.add_sub_cancel]
    omega
theorem e_lev : ∀ {f : FT}, f.wfb = true → f.e ≤ 16 ^ (f.lev - 1)
  | .int _, _ => Nat.le_refl _
  | .x, _ => Nat.le_refl _
  | .y, _ => Nat.le_refl _
  | .add a b, h => by
    simp only [FT.wfb, Bool.and_eq_true] at h
    have k := key (e_lev h.1) (e_lev h.2)
    simp only [FT.e, FT.lev]
    omega
  | .sub a b, h => by
    simp only [FT.wfb, Bool.and_eq_true] at h
    have k := key (e_lev h.1) (e_lev h.2)
    simp only [FT.e, FT.lev]
    omega
  | .mul a b, h => by
    simp only [FT.wfb, Bool.and_eq_true] at h
    have k := key (e_lev h.1) (e_lev h.2)
    simp only [FT.e, FT.lev]
    omega
  | .pow a n, h => by
    simp only [FT.wfb, Bool.and_eq_true, decide_eq_true_iff] at h
    have k := e_lev h.2
    have := a.lev_pos
    have p : 16 ^ (a.lev - 1) * 16 = 16 ^ a.lev := by rw [← Nat.pow_succ, show (a.lev - 1).succ = a.lev by omega]
    simp only [FT.e, FT.lev, Nat.add_sub_cancel]
    have m : a.e * max 1 n ≤ 16 ^ (a.lev - 1) * 16 := Nat.mul_le_mul k (by omega)
    omega
where
  key {a b : FT} (h1 : a.e ≤ 16 ^ (a.lev - 1)) (h2 : b.e ≤ 16 ^ (b.lev - 1)) : a.e + b.e ≤ 16 ^ (max a.lev b.lev + 1 - 1) := by
    have l1 := a.lev_pos
    have l2 := b.lev_pos
    have m1 : 16 ^ (a.lev - 1) ≤ 16 ^ (max a.lev b.lev - 1) := Nat.pow_le_pow_right (by decide) (by omega)
    have m2 : 16 ^ (b.lev - 1) ≤ 16 ^ (max a.lev b.lev - 1) := Nat.pow_le_pow_right (by decide) (by omega)
    have p : 16 ^ (max a.lev b.lev - 1) * 16 = 16 ^ max a.lev b.lev := by rw [← Nat.pow_succ, show (max a.lev b.lev - 1).succ = max a.lev b.lev by omega]
    simp only [Nat.add_sub_cancel]
    omega
end DL
namespace DL
open PySem L2 PyProof.Rows
theorem at_o1 {z : Str} {i c : Nat} (h : (cl z)[i]? = some c) : atI z.cps.toList ((i : Nat) : Int) = some c := by
  have il := (List.getElem?_eq_some_iff.mp h).1
  have il : i < z.cps.toList.length := il
  unfold atI ixN
  rw [if_pos (by omega), if_pos (by omega), Int.toNat_natCast]
  exact h
def figD (z : Str) (i : Nat) : PD := match figM (cl z) false i with
  | some (b, _) => .tuple [.int (b : Nat), .bool true]
  | none => .tuple [.int (i : Nat), .bool false]
theorem figD_none {z : Str} {i : Nat} (h : figM (cl z) false i = none) : figD z i = .tuple [.int (i : Nat), .bool false] := by unfold figD; rw [h]
theorem figD_some {z : Str} {i b v : Nat} (h : figM (cl z) false i = some (b, v)) : figD z i = .tuple [.int (b : Nat), .bool true] := by unfold figD; rw [h]
def at1Of (ρ : En) : Nat := match (ρ[1]? : Option (Option Lc)) with
  | some (some (Lc.d (.int a))) => a.toNat
  | _ => 0
def S_lfig : FSpec := ⟨fun args Q => ∃ (z : Str) (i : Nat), args = [.d (.str z), .d (.int (i : Nat))] ∧ i ≤ z.length ∧ z.length ≤ 100000 ∧ Q (.d (figD z i)) []⟩
abbrev N_law_figures_7a4d : List Str := ["text", "at"]
def ir_law_figures_7a4d : TSt :=
  (sSeq (sIf (tOrD (tVal (dBin cEq (.e (dSl (.s 0) (pSome (.s 1)) (pSome (.e (dBin bAdd (.s 1) (.e (dC (.int 1)))))))) (.e (dC (.str ""))))) (tVal (dBin (cInS true) (.e (dBin bIx (.s 0) (.s 1))) (.e (dC (.str "0123456789")))))) (sRet (fD (dTup (aCons (.e (dVar 1)) (aCons (.e (dC (.bool false))) aNil))))) sNext)
    (sSeq (sIf (tVal (dBin cEq (.e (dBin bIx (.s 0) (.s 1))) (.e (dC (.str "0"))))) (sRet (fD (dTup (aCons (.e (dBin bAdd (.s 1) (.e (dC (.int 1))))) (aCons (.e (dC (.bool true))) aNil))))) sNext)
    (sSeq (sWhile (tAndD (tVal (dBin cNe (.e (dSl (.s 0) (pSome (.s 1)) (pSome (.e (dBin bAdd (.s 1) (.e (dC (.int 1)))))))) (.e (dC (.str ""))))) (tVal (dBin (cInS false) (.e (dBin bIx (.s 0) (.s 1))) (.e (dC (.str "0123456789")))))) (sAsg 1 (fD (dBin bAdd (.s 1) (.e (dC (.int 1)))))))
    (sRet (fD (dTup (aCons (.e (dVar 1)) (aCons (.e (dC (.bool true))) aNil))))))))
theorem dg_mem (d : Nat) : (!(Builtin.Str.occurrences "0123456789" (o1 d) 0 ("0123456789" : Str).length 1).isEmpty) = dg d := by
  rw [occ_in, cl_fig.1, Bool.eq_iff_iff, decide_eq_true_iff]
  unfold dg
  simp
  omega
theorem sp_lfig : ∀ args Q, S_lfig.sp args Q → ir_law_figures_7a4d (endsOf args Q) (rho0 N_law_figures_7a4d args) := by
  rintro args Q ⟨z, i, rfl, hi, hz, q⟩
  have sz : z.length ≤ sizeLine := by rw [sizeLine_eq]; omega
  refine ⟨sz, ?_⟩
  rw [cut_sg hi]
  cases e : (cl z)[i]? with
  | none =>
    have f : figM (cl z) false i = none := by unfold figM; rw [e]
    rw [figD_none f] at q
    rw [sg_none e]
    exact ⟨fun _ => ⟨fun _ => q, nofun⟩, nofun⟩
  | some c =>
    have il := (List.getElem?_eq_some_iff.mp e).1
    rw [cl_len] at il
    rw [sg_some e]
    refine ⟨fun h => ?_, fun _ => ?_⟩
    · have h : o1 c = "" := of_decide_eq_true h
      exact absurd h (o1_ne c)
    refine ⟨sz, c, at_o1 e, ?_⟩
    show brB (!(!(Builtin.Str.occurrences "0123456789" (o1 c) 0 ("0123456789" : Str).length 1).isEmpty)) _ _
    rw [dg_mem]
    refine ⟨fun h => ?_, fun h => ?_⟩
    · have hd : dg c = false := by simpa using h
      have f : figM (cl z) false i = none := by
        unfold figM; rw [e]; dsimp only
        rw [if_neg (by rw [hd]; exact fun x => Bool.false_ne_true x.1)]
      rw [figD_none f] at q
      exact q
    · have hd : dg c = true := by simpa using h
      refine ⟨sz, c, at_o1 e, fun h => ?_, fun h => ?_⟩
      · have h : o1 c = "0" := of_decide_eq_true h
        rw [lit.2.2.2.2.2.1, o1_eq] at h
        subst h
        have f : figM (cl z) false i = some (i + 1, 0) := by
          unfold figM; rw [e]; rfl
        rw [figD_some f] at q
        exact q
      · have h : ¬ o1 c = "0" := of_decide_eq_false h
        rw [lit.2.2.2.2.2.1, o1_eq] at h
        have f : figM (cl z) false i = some (i + dgN (cl z) i, NumText.digitsVal (dgL (cl z) i)) := by
          unfold figM; rw [e]; dsimp only
          rw [if_pos ⟨hd, nofun⟩, if_neg h]
        rw [figD_some f] at q
        have pos := dgN_pos e hd
        have nl := dgN_le (cl z) i
        rw [cl_len] at nl
        refine ⟨fun ρ => ∃ j : Nat, ρ = [some (.d (.str z)), some (.d (.int ((j : Nat) : Int)))] ∧ i ≤ j ∧ j ≤ i + dgN (cl z) i, fun ρ => z.length + 1 - at1Of ρ, ⟨i, rfl, Nat.le_refl _, Nat.le_add_right _ _⟩, ?_⟩
        rintro ρ ⟨j, rfl, j1, j2⟩
        have jl : j ≤ z.length := by omega
        have st := dgN_step (by omega) j2
        refine ⟨sz, ?_⟩
        rw [cut_sg jl]
        have out : (cl z)[j]?.any dg = false → j = i + dgN (cl z) i := fun h => by
          have : ¬ j < i + dgN (cl z) i := fun z => by rw [st.mp z] at h; cases h
          omega
        cases e2 : (cl z)[j]? with
        | none =>
          rw [sg_none e2]
          have hj := out (by rw [e2]; rfl)
          subst hj
          exact ⟨nofun, fun _ => ⟨nofun, fun _ => q⟩⟩
        | some d =>
          rw [sg_some e2]
          refine ⟨fun _ => ⟨sz, d, at_o1 e2, ?_⟩, fun h => ?_⟩
          · show brB (!(Builtin.Str.occurrences "0123456789" (o1 d) 0 ("0123456789" : Str).length 1).isEmpty) _ _
            rw [dg_mem]
            refine ⟨fun hd => ?_, fun hd => ?_⟩
            · have lt := st.mpr (by rw [e2]; exact hd)
              refine ⟨⟨j + 1, rfl, by omega, by omega⟩, ?_⟩
              show z.length + 1 - (((j : Nat) : Int) + 1).toNat < z.length + 1 - (((j : Nat) : Int)).toNat
              omega
            · have hj := out (by rw [e2]; exact hd)
              subst hj
              exact q
          · have h : (!decide (o1 d = "")) = false := h
            rw [decide_eq_false (o1_ne d)] at h; cases h
theorem fig_run {t : List Nat} {one : Bool} {i b v : Nat} (h : figM t one i = some (b, v)) : NumText.AllDigits ((t.drop i).take (b - i)) ∧ (t.drop i).take (b - i) ≠ [] ∧ NumText.digitsVal ((t.drop i).take (b - i)) = v := by
  unfold figM at h
  cases e : t[i]? with
  | none => rw [e] at h; cases h
  | some c =>
    rw [e] at h
    obtain ⟨il, ec⟩ := List.getElem?_eq_some_iff.mp e
    dsimp only at h
    split at h
    · rename_i hc
      split at h
      · rename_i h48
        cases h
        have el : (t.drop i).take (i + 1 - i) = [c] := by
          rw [show i + 1 - i = 1 by omega, List.drop_eq_getElem_cons il, ec]; rfl
        rw [el, h48]
        exact ⟨fun d hd => by rw [List.mem_singleton.mp hd]; decide, nofun, rfl⟩
      · cases h
        rw [show i + dgN t i - i = dgN t i by omega, dgL_take]
        refine ⟨dg_all t i, fun z => ?_, rfl⟩
        have := dgN_pos e hc.1
        unfold dgN at this
        rw [z] at this
        exact absurd this (Nat.lt_irrefl _)
    · cases h
theorem cut_short {z : Str} {i b : Nat} (h1 : i ≤ b) (h2 : b ≤ z.length) (hz : z.length ≤ 3100) : (cutS z (some ((i : Nat) : Int)) (some ((b : Nat) : Int))).length ≤ 4300 := by
  rw [← cl_len]
  show List.length (Str.cps _).toList ≤ _
  rw [cut_run h1 h2, List.length_take]
  omega
theorem fig_text {z : Str} {one : Bool} {i b v : Nat} (h : figM (cl z) one i = some (b, v)) (hz : z.length ≤ 3100) : PySem.intText? (cutS z (some ((i : Nat) : Int)) (some ((b : Nat) : Int))) = some (v : Int) ∧ (cutS z (some ((i : Nat) : Int)) (some ((b : Nat) : Int))).length ≤ 4300 := by
  have le := figM_le h
  rw [cl_len] at le
  obtain ⟨h1, h2, h3⟩ := fig_run h
  have el := cut_short (i := i) (b := b) (by omega) le.2 hz
  have e := cut_run (z := z) (i := i) (b := b) (by omega) le.2
  refine ⟨?_, el⟩
  rw [PySem.intText_digits (by rw [e]; exact h1) (by rw [e]; exact h2) (by omega), e, h3]
theorem fig_neg {z : Str} {i b v : Nat} (h0 : (cl z)[i]? = some 45) (h : figM (cl z) true (i + 1) = some (b, v)) (hz : z.length ≤ 3100) : PySem.intText? (cutS z (some ((i : Nat) : Int)) (some ((b : Nat) : Int))) = some (0 - (v : Int)) ∧ (cutS z (some ((i : Nat) : Int)) (some ((b : Nat) : Int))).length ≤ 4300 := by
  have le := figM_le h
  rw [cl_len] at le
  obtain ⟨h1, h2, h3⟩ := fig_run h
  have el := cut_short (i := i) (b := b) (by omega) le.2 hz
  have e := cut_run (z := z) (i := i) (b := b) (by omega) le.2
  obtain ⟨il, ec⟩ := List.getElem?_eq_some_iff.mp h0
  have e2 : ((cl z).drop i).take (b - i) = 45 :: ((cl z).drop (i + 1)).take (b - (i + 1)) := by
    rw [List.drop_eq_getElem_cons il, ec, show b - i = (b - (i + 1)) + 1 by omega]; rfl
  rw [e2] at e
  refine ⟨?_, el⟩
  rw [PySem.intText_neg e h1 h2 (by omega), h3, Int.zero_sub]
def leafD (z : Str) (i : Nat) : PD := match leafM (cl z) i with
  | .ok (v, b) => .tuple [.int (b : Nat), v.pd]
  | .error e => .tuple [.int (e : Nat), .none]
theorem leafD_ok {z : Str} {i b : Nat} {v : FT} (h : leafM (cl z) i = .ok (v, b)) : leafD z i = .tuple [.int (b : Nat), v.pd] := by unfold leafD; rw [h]
theorem leafD_err {z : Str} {i e : Nat} (h : leafM (cl z) i = .error e) : leafD z i = .tuple [.int (e : Nat), .none] := by unfold leafD; rw [h]
def S_lleaf : FSpec := ⟨fun args Q => ∃ (z : Str) (i : Nat), args = [.d (.str z), .d (.int (i : Nat))] ∧ i ≤ z.length ∧ z.length ≤ 3100 ∧ Q (.d (leafD z i)) []⟩
abbrev N_law_leaf_at_841f : List Str := ["text", "at", "low", "behind", "is_there"]
def ir_law_leaf_at_841f (S_law_figures_7a4d : FSpec) : TSt :=
  (sSeq (sIf (tVal (dBin (cIn false) (.e (dSl (.s 0) (pSome (.s 1)) (pSome (.e (dBin bAdd (.s 1) (.e (dC (.int 1)))))))) (.e (dTup (aCons (.e (dC (.str "x"))) (aCons (.e (dC (.str "y"))) aNil)))))) (sRet (fD (dTup (aCons (.e (dBin bAdd (.s 1) (.e (dC (.int 1))))) (aCons (.e (dBin bIx (.s 0) (.s 1))) aNil))))) sNext)
    (sSeq (sAsg 2 (fD (dIte (tVal (dBin cEq (.e (dSl (.s 0) (pSome (.s 1)) (pSome (.e (dBin bAdd (.s 1) (.e (dC (.int 1)))))))) (.e (dC (.str "-"))))) (dBin bAdd (.s 1) (.e (dC (.int 1)))) (dVar 1))))
    (sSeq (sIf (tAndD (tVal (dBin cGt (.s 2) (.s 1))) (tVal (dBin cEq (.e (dSl (.s 0) (pSome (.s 2)) (pSome (.e (dBin bAdd (.s 2) (.e (dC (.int 1)))))))) (.e (dC (.str "0")))))) (sRet (fD (dTup (aCons (.e (dVar 2)) (aCons (.e (dC (.none))) aNil))))) sNext)
    (sSeq (sUnp (.tp [3, 4]) (dFz (fCall S_law_figures_7a4d (aCons (.e (dVar 0)) (aCons (.e (dVar 2)) aNil)))))
    (sRet (fD (dTup (aCons (.e (dVar 3)) (aCons (.e (dIte (tVal (dVar 4)) (dBi bIntL (aCons (.e (dSl (.s 0) (pSome (.s 1)) (pSome (.s 3)))) aNil)) (dC (.none)))) aNil)))))))))
theorem xy_any (c : Nat) : ([PyData.str "x", .str "y"].any fun z => PyData.eqv z (.str (o1 c))) = (decide (c = 120) || decide (c = 121)) := by
  obtain ⟨_, _, _, _, _, _, _, l8, l9⟩ := lit
  rw [l8, l9]
  simp only [List.any_cons, List.any_nil, eqv_o1, Bool.or_false]
  by_cases h1 : c = 120
  · subst h1; decide
  · by_cases h2 : c = 121
    · subst h2; decide
    · simp [h1, h2, Ne.symm h1, Ne.symm h2]
theorem sp_lleaf : ∀ args Q, S_lleaf.sp args Q → ir_law_leaf_at_841f S_lfig (endsOf args Q) (rho0 N_law_leaf_at_841f args) := by
  rintro args Q ⟨z, i, rfl, hi, hz, q⟩
  obtain ⟨_, _, _, _, l5, l6, _, l8, l9⟩ := lit
  have sz : z.length ≤ sizeLine := by rw [sizeLine_eq]; omega
  refine ⟨sz, ?_⟩
  rw [cut_sg hi]
  refine ⟨rfl, _, rfl, rfl, ?_⟩
  cases e : (cl z)[i]? with
  | none =>
    have f : figM (cl z) false i = none := by unfold figM; rw [e]
    have lm : leafM (cl z) i = .error i := by unfold leafM; rw [e, f]; rfl
    rw [leafD_err lm] at q
    rw [sg_none e]
    refine ⟨nofun, fun _ => ⟨sz, ?_⟩⟩
    rw [cut_sg hi, sg_none e]
    refine ⟨nofun, fun _ => ⟨fun h => absurd (of_decide_eq_true h) (by omega), fun _ => ⟨nofun, fun _ => ⟨rfl, z, i, rfl, hi, by omega, ?_⟩⟩⟩⟩
    rw [figD_none f]
    exact ⟨rfl, nofun, fun _ => q⟩
  | some c =>
    have il := (List.getElem?_eq_some_iff.mp e).1
    rw [cl_len] at il
    rw [sg_some e]
    show brB ([PyData.str "x", .str "y"].any fun z => PyData.eqv z (.str (o1 c))) _ _
    rw [xy_any]
    by_cases hx : c = 120 ∨ c = 121
    · have lm : leafM (cl z) i = .ok (if c = 120 then .x else .y, i + 1) := by
        unfold leafM
        rw [e]
        rcases hx with rfl | rfl <;> rfl
      rw [leafD_ok lm] at q
      refine ⟨fun _ => ⟨sz, c, at_o1 e, ?_⟩, fun h => ?_⟩
      · rcases hx with rfl | rfl
        · have q : Q (.d (.tuple [.int ((i + 1 : Nat) : Int), .str "x"])) [] := q
          rw [l8] at q
          exact q
        · have q : Q (.d (.tuple [.int ((i + 1 : Nat) : Int), .str "y"])) [] := q
          rw [l9] at q
          exact q
      · rcases hx with rfl | rfl <;> simp at h
    · have h120 : c ≠ 120 := fun h => hx (.inl h)
      have h121 : c ≠ 121 := fun h => hx (.inr h)
      refine ⟨fun h => by simp [h120, h121] at h, fun _ => ⟨sz, ?_⟩⟩
      rw [cut_sg hi, sg_some e]
      by_cases h45 : c = 45
      · subst h45
        refine ⟨fun _ => ?_, fun h => ?_⟩
        · refine ⟨fun _ => ⟨sz, ?_⟩, fun h => absurd (of_decide_eq_false h) (by omega)⟩
          have ec : cutS z (some (((i : Nat) : Int) + 1)) (some (((i : Nat) : Int) + 1 + 1)) = sg z (i + 1) := cut_sg (i := i + 1) (by omega)
          rw [ec]
          have lM : leafM (cl z) i = figE true (i + 1) (figM (cl z) true (i + 1)) := by
            unfold leafM
            rw [e]; rfl
          by_cases h48 : (cl z)[i + 1]? = some 48
          · have f : figM (cl z) true (i + 1) = none := by unfold figM; rw [h48]; rfl
            rw [f] at lM
            rw [leafD_err lM] at q
            rw [sg_some h48]
            exact ⟨fun _ => q, fun h => absurd l6 (fun x => by rw [← x] at h; have := of_decide_eq_false h; exact this rfl)⟩
          · have ne : ¬ sg z (i + 1) = "0" := fun h => by
              cases e2 : (cl z)[i + 1]? with
              | none => rw [sg_none e2] at h; exact absurd h (by decide)
              | some d =>
                rw [sg_some e2, l6, o1_eq] at h
                rw [e2, h] at h48
                exact h48 rfl
            refine ⟨fun h => absurd (of_decide_eq_true h) ne, fun _ => ⟨rfl, z, i + 1, rfl, by omega, by omega, ?_⟩⟩
            have f2 : figM (cl z) true (i + 1) = figM (cl z) false (i + 1) := by
              unfold figM
              cases e2 : (cl z)[i + 1]? with
              | none => rfl
              | some d =>
                have d48 : d ≠ 48 := fun z => by rw [e2, z] at h48; exact h48 rfl
                simp [d48]
            cases f : figM (cl z) true (i + 1) with
            | none =>
              rw [f] at lM
              rw [leafD_err lM] at q
              rw [figD_none (by rw [← f2]; exact f)]
              exact ⟨rfl, nofun, fun _ => q⟩
            | some p =>
              obtain ⟨b, v⟩ := p
              rw [f] at lM
              rw [leafD_ok (v := .int (0 - (v : Int))) lM] at q
              rw [figD_some (by rw [← f2]; exact f)]
              obtain ⟨t1, t2⟩ := fig_neg e f hz
              exact ⟨rfl, fun _ => ⟨sz, _, t1, t2, q⟩, nofun⟩
        · have h : ¬ o1 45 = "-" := of_decide_eq_false h
          exact absurd l5.symm h
      · refine ⟨fun h => ?_, fun _ => ?_⟩
        · have h : o1 c = "-" := of_decide_eq_true h
          rw [l5, o1_eq] at h
          exact absurd h h45
        · refine ⟨fun h => absurd (of_decide_eq_true h) (by omega), fun _ => ⟨nofun, fun _ => ⟨rfl, z, i, rfl, hi, by omega, ?_⟩⟩⟩
          have lM : leafM (cl z) i = figE false i (figM (cl z) false i) := by
            unfold leafM
            rw [e, if_neg (by intro z; cases z; exact h120 rfl), if_neg (by intro z; cases z; exact h121 rfl), if_neg (by intro z; cases z; exact h45 rfl)]
          cases f : figM (cl z) false i with
          | none =>
            rw [f] at lM
            rw [leafD_err lM] at q
            rw [figD_none f]
            exact ⟨rfl, nofun, fun _ => q⟩
          | some p =>
            obtain ⟨b, v⟩ := p
            rw [f] at lM
            rw [leafD_ok (v := .int (v : Int)) lM] at q
            rw [figD_some f]
            obtain ⟨t1, t2⟩ := fig_text f hz
            exact ⟨rfl, fun _ => ⟨sz, _, t1, t2, q⟩, nofun⟩
end DL
namespace DL
open PySem L2 PyProof.Rows
def encL : Option (W3 × FT) → PD
  | none => .none
  | some (w, a) => .tuple [.str w.str, a.pd]
def encW (s : Stk) : List PD := s.reverse.map encL
theorem encW_cons (e : Option (W3 × FT)) (s : Stk) : encW (e :: s) = encW s ++ [encL e] := by
  unfold encW
  rw [List.reverse_cons, List.map_append]; rfl
theorem encW_len (s : Stk) : (encW s).length = s.length := by unfold encW; rw [List.length_map, List.length_reverse]
theorem encW_top (e : Option (W3 × FT)) (s : Stk) : atI (encW (e :: s)) (-1) = some (encL e) := by
  rw [encW_cons]
  unfold atI ixN
  rw [List.length_append, List.length_singleton, if_neg (by decide), if_pos (by omega)]
  show (encW s ++ [encL e])[((-1 : Int) + (((encW s).length + 1 : Nat) : Int)).toNat]? = _
  rw [show ((-1 : Int) + (((encW s).length + 1 : Nat) : Int)).toNat = (encW s).length by omega, List.getElem?_append_right (Nat.le_refl _), Nat.sub_self]; rfl
theorem encW_ix (e : Option (W3 × FT)) (s : Stk) : ixN (encW (e :: s)).length (-1) = some (encW s).length := by
  rw [encW_cons]
  unfold ixN
  rw [List.length_append, List.length_singleton, if_neg (by decide), if_pos (by omega)]
  rw [show ((-1 : Int) + (((encW s).length + 1 : Nat) : Int)).toNat = (encW s).length by omega]
theorem encW_set (e d : Option (W3 × FT)) (s : Stk) : (encW (e :: s)).set (encW s).length (encL d) = encW (d :: s) := by
  rw [encW_cons, encW_cons, List.set_append_right _ _ (Nat.le_refl _), Nat.sub_self]; rfl
theorem encW_pop (e : Option (W3 × FT)) (s : Stk) : (encW (e :: s))[(encW (e :: s)).length - 1]? = some (encL e) ∧ (encW (e :: s)).dropLast = encW s := by
  rw [encW_cons, List.length_append, List.length_singleton, Nat.add_sub_cancel, List.getElem?_append_right (Nat.le_refl _), Nat.sub_self, List.dropLast_concat]
  exact ⟨rfl, rfl⟩
def lrD (n : Nat) : Except Nat (FT × Nat) → PD
  | .error e => .tuple [.str "at", .int (e : Nat)]
  | .ok (w, k) => if k = n then .tuple [.str "is", w.pd] else .tuple [.str "at", .int (k : Nat)]
def S_lread : FSpec := ⟨fun args Q => ∃ (z : Str) (r : Except Nat (FT × Nat)), args = [.d (.str z)] ∧ z.length ≤ 3100 ∧ Reads (cl z) 4000 [] 0 r ∧ Q (.d (lrD z.length r)) []⟩
def at2Of (ρ : En) : Nat := match (ρ[2]? : Option (Option Lc)) with
  | some (some (Lc.ls _ xs)) => xs.length
  | _ => 0
theorem pd_some (v : FT) : isNone v.pd = false := by cases v <;> rfl
theorem ops_any (c : Nat) : ([PyData.str "+", .str "-", .str "*"].any fun z => PyData.eqv z (.str (o1 c))) = (w3 c).isSome := by
  obtain ⟨_, _, l3, l4, l5, _⟩ := lit
  rw [l3, l4, l5]
  simp only [List.any_cons, List.any_nil, eqv_o1, Bool.or_false]
  unfold w3
  by_cases h1 : c = 43
  · subst h1; decide
  · by_cases h2 : c = 45
    · subst h2; decide
    · by_cases h3 : c = 42
      · subst h3; decide
      · simp [h1, h2, h3, Ne.symm h1, Ne.symm h2, Ne.symm h3]
theorem up_out {t : List Nat} {r : Stk} {v : FT} {i : Nat} (h94 : t[i]? ≠ some 94) (hw : ∀ c, t[i]? = some c → w3 c = none) : upM t (none :: r) v i = .error i := by
  unfold upM
  cases e : t[i]? with
  | none => rfl
  | some c =>
    dsimp only
    rw [hw c e]
    dsimp only
    rw [if_neg (by intro z; rw [e, z] at h94; exact h94 rfl)]
theorem up_on {t : List Nat} {r : Stk} {v : FT} {i c : Nat} {w : W3} (h : t[i]? = some c) (hw : w3 c = some w) : upM t (none :: r) v i = .ok (some (w, v) :: r, v, i + 1) := by
  unfold upM
  rw [h]
  dsimp only
  rw [hw]
abbrev N_law_read_076a : List Str := ["text", "at", "wait", "value", "low", "is_there"]
def ir_law_read_076a (S_law_leaf_at_841f : FSpec) (S_law_figures_7a4d : FSpec) : TSt :=
  (sSeq (sPar 1 2 (fD (dC (.int 0))) (fLst aNil))
    (sWhile (tVal (dC (.bool true))) (sSeq (sWhile (tVal (dBin cEq (.e (dSl (.s 0) (pSome (.s 1)) (pSome (.e (dBin bAdd (.s 1) (.e (dC (.int 1)))))))) (.e (dC (.str "("))))) (sSeq (sApp 2 (dC (.none)))
    (sAsg 1 (fD (dBin bAdd (.s 1) (.e (dC (.int 1))))))))
    (sSeq (sUnp (.tp [1, 3]) (dFz (fCall S_law_leaf_at_841f (aCons (.e (dVar 0)) (aCons (.e (dVar 1)) aNil)))))
    (sSeq (sIf (tVal (dBin cIsN (.s 3) (.e (dC (.none))))) (sRet (fD (dTup (aCons (.e (dC (.str "at"))) (aCons (.e (dVar 1)) aNil))))) sNext)
    (sSeq (sWhile (tAndD (tVal (dBin (cNil true) (.s 2) (.e (dFz (fLst aNil))))) (tOrD (tVal (dBin cNotN (.e (dBin bIx (.s 2) (.e (dNeg (.e (dC (.int 1))))))) (.e (dC (.none))))) (tVal (dBin cEq (.e (dSl (.s 0) (pSome (.s 1)) (pSome (.e (dBin bAdd (.s 1) (.e (dC (.int 1)))))))) (.e (dC (.str "^"))))))) (sSeq (sIf (tVal (dBin cIsN (.e (dBin bIx (.s 2) (.e (dNeg (.e (dC (.int 1))))))) (.e (dC (.none))))) (sSeq (sAsg 4 (fD (dBin bAdd (.s 1) (.e (dC (.int 1))))))
    (sSeq (sUnp (.tp [1, 5]) (dFz (fCall S_law_figures_7a4d (aCons (.e (dVar 0)) (aCons (.e (dVar 4)) aNil)))))
    (sAsg 3 (fD (dIte (tVal (dVar 5)) (dTup (aCons (.e (dC (.str "pow"))) (aCons (.e (dVar 3)) (aCons (.e (dBi bIntL (aCons (.e (dSl (.s 0) (pSome (.s 4)) (pSome (.s 1)))) aNil))) aNil)))) (dC (.none))))))) (sAsg 3 (fD (dBin bAddT (.e (dBin bIx (.s 2) (.e (dNeg (.e (dC (.int 1))))))) (.e (dTup (aCons (.e (dVar 3)) aNil)))))))
    (sSeq (sIf (tOrD (tVal (dBin cIsN (.s 3) (.e (dC (.none))))) (tVal (dBin cNe (.e (dSl (.s 0) (pSome (.s 1)) (pSome (.e (dBin bAdd (.s 1) (.e (dC (.int 1)))))))) (.e (dC (.str ")")))))) (sRet (fD (dTup (aCons (.e (dC (.str "at"))) (aCons (.e (dVar 1)) aNil))))) sNext)
    (sSeq (sAsg 1 (fD (dBin bAdd (.s 1) (.e (dC (.int 1))))))
    (sDrop (dPop 2))))))
    (sSeq (sIf (tVal (dBin (cNil false) (.s 2) (.e (dFz (fLst aNil))))) (sRet (fD (dIte (tVal (dBin cEq (.s 1) (.e (dBi bLen (aCons (.s 0) aNil))))) (dTup (aCons (.e (dC (.str "is"))) (aCons (.e (dVar 3)) aNil))) (dTup (aCons (.e (dC (.str "at"))) (aCons (.e (dVar 1)) aNil)))))) sNext)
    (sSeq (sIf (tVal (dBin (cIn true) (.e (dSl (.s 0) (pSome (.s 1)) (pSome (.e (dBin bAdd (.s 1) (.e (dC (.int 1)))))))) (.e (dTup (aCons (.e (dC (.str "+"))) (aCons (.e (dC (.str "-"))) (aCons (.e (dC (.str "*"))) aNil))))))) (sRet (fD (dTup (aCons (.e (dC (.str "at"))) (aCons (.e (dVar 1)) aNil))))) sNext)
    (sSeq (sSetL 2 (.e (dNeg (.e (dC (.int 1))))) (dTup (aCons (.e (dIxF (fDict [.inr "+", .inr "-", .inr "*"] [(dC (.str "add")), (dC (.str "sub")), (dC (.str "mul"))]) (.e (dBin bIx (.s 0) (.s 1))))) (aCons (.e (dVar 3)) aNil))))
    (sAsg 1 (fD (dBin bAdd (.s 1) (.e (dC (.int 1)))))))))))))))
set_option maxHeartbeats 4000000 in
theorem sp_lread : ∀ args Q, S_lread.sp args Q → ir_law_read_076a S_lleaf S_lfig (endsOf args Q) (rho0 N_law_read_076a args) := by
  rintro args Q ⟨z, r, rfl, hz, hR, q⟩
  obtain ⟨l1, l2, l3, l4, l5, l6, l7, l8, l9⟩ := lit
  have sz : z.length ≤ sizeLine := by rw [sizeLine_eq]; omega
  have zl := cl_len z
  refine ⟨fun ρ => ∃ (s : Stk) (i : Nat) (s3 s4 s5 : Option Lc), ρ = [some (.d (.str z)), some (.d (.int ((i : Nat) : Int))), some (.ls none (encW s)), s3, s4, s5] ∧ i ≤ z.length ∧ StOk 4000 s ∧ Reads (cl z) 4000 s i r, fun ρ => z.length + 1 - at1Of ρ, ⟨[], 0, none, none, none, rfl, Nat.zero_le _, ⟨by decide, nofun⟩, hR⟩, ?_⟩
  rintro ρ ⟨s0, i0, s3, s4, s5, rfl, hi0, so0, hR0⟩
  refine ⟨fun _ => ?_, nofun⟩
  refine ⟨fun ρ => ∃ (s : Stk) (i : Nat), ρ = [some (.d (.str z)), some (.d (.int ((i : Nat) : Int))), some (.ls none (encW s)), s3, s4, s5] ∧ i0 ≤ i ∧ i ≤ z.length ∧ StOk 4000 s ∧ Reads (cl z) 4000 s i r, fun ρ => z.length + 1 - at1Of ρ, ⟨s0, i0, rfl, Nat.le_refl _, hi0, so0, hR0⟩, ?_⟩
  rintro ρ ⟨s, i, rfl, hi1, hi, so, hR⟩
  refine ⟨sz, ?_⟩
  rw [cut_sg hi]
  refine ⟨fun h => ?_, fun h => ?_⟩
  · have h : sg z i = "(" := of_decide_eq_true h
    have e40 : (cl z)[i]? = some 40 := by
      cases e : (cl z)[i]? with
      | none => rw [sg_none e] at h; exact absurd h (by decide)
      | some c => rw [sg_some e, l1, o1_eq] at h; rw [h]
    have il := (List.getElem?_eq_some_iff.mp e40).1
    obtain ⟨so2, hR2⟩ := hR.open_ e40
    have sl := so2.1
    refine ⟨by rw [encW_len, sizeLine_eq]; rw [List.length_cons] at sl; omega, ⟨none :: s, i + 1, by rw [encW_cons]; rfl, by omega, by omega, so2, hR2⟩, ?_⟩
    show z.length + 1 - (((i : Nat) : Int) + 1).toNat < z.length + 1 - (((i : Nat) : Int)).toNat
    omega
  · have n40 : (cl z)[i]? ≠ some 40 := fun e => by
      have h : ¬ sg z i = "(" := of_decide_eq_false h
      rw [sg_some e, l1] at h
      exact h rfl
    refine ⟨rfl, z, i, rfl, hi, hz, ?_⟩
    cases hl : leafM (cl z) i with
    | error e =>
      rw [leafD_err hl]
      have hr : r = .error e := by
        cases hR with
        | push h1 => exact absurd h1 n40
        | bad _ h1 => rw [hl] at h1; cases h1; rfl
        | badUp _ h1 => rw [hl] at h1; cases h1
        | done _ h1 => rw [hl] at h1; cases h1
        | more _ h1 => rw [hl] at h1; cases h1
      subst hr
      exact ⟨rfl, rfl, fun _ => q, nofun⟩
    | ok p =>
      obtain ⟨v, j⟩ := p
      rw [leafD_ok hl]
      have jl := leafM_le hl
      have inv : StOk 4000 s ∧ UpOk (cl z) 4000 s v j ∧ ((∃ e, upM (cl z) s v j = .error e ∧ r = .error e) ∨ (∃ w k, upM (cl z) s v j = .ok ([], w, k) ∧ r = .ok (w, k)) ∨ ∃ s' w k, upM (cl z) s v j = .ok (s', w, k) ∧ s' ≠ [] ∧ StOk 4000 s' ∧ Reads (cl z) 4000 s' k r) := by
        cases hR with
        | push h1 => exact absurd h1 n40
        | bad _ h1 => rw [hl] at h1; cases h1
        | badUp _ h1 h2 h3 h4 => rw [hl] at h1; cases h1; exact ⟨h2, h3, .inl ⟨_, h4, rfl⟩⟩
        | done _ h1 h2 h3 h4 => rw [hl] at h1; cases h1; exact ⟨h2, h3, .inr (.inl ⟨_, _, h4, rfl⟩)⟩
        | more _ h1 h2 h3 h4 h5 h6 h7 => rw [hl] at h1; cases h1; exact ⟨h2, h3, .inr (.inr ⟨_, _, _, h4, h5, h6, h7⟩)⟩
      obtain ⟨_, uo0, i3⟩ := inv
      have err : ∀ e, upM (cl z) s v j = .error e → Q (.d (.tuple [.str "at", .int (e : Nat)])) [] := fun e hu => by
        rcases i3 with ⟨e', h1, h2⟩ | ⟨w', k', h1, h2⟩ | ⟨s2', w', k', h1, _⟩
        · rw [hu] at h1; cases h1; subst h2; exact q
        · rw [hu] at h1; cases h1
        · rw [hu] at h1; cases h1
      have sn : isNone v.pd = false := pd_some v
      refine ⟨rfl, rfl, fun h => ?_, fun _ => ?_⟩
      · have h : isNone v.pd = true := h
        rw [sn] at h; cases h
      refine ⟨fun ρ => ∃ (s' : Stk) (w : FT) (k : Nat) (s4 s5 : Option Lc), ρ = [some (.d (.str z)), some (.d (.int ((k : Nat) : Int))), some (.ls none (encW s')), some (.d w.pd), s4, s5] ∧ j ≤ k ∧ k ≤ z.length ∧ StOk 4000 s' ∧ UpOk (cl z) 4000 s' w k ∧ upM (cl z) s' w k = upM (cl z) s v j, at2Of, ⟨s, v, j, s4, s5, rfl, Nat.le_refl _, by omega, so, uo0, rfl⟩, ?_⟩
      rintro ρ ⟨s', w, k, s4, s5, rfl, jk, hk, so', uo, hu⟩
      have em : (encW s').isEmpty = s'.isEmpty := by
        have := encW_len s'
        cases s' with
        | nil => rfl
        | cons e r => rw [encW_cons]; simp
      show brB (!(encW s').isEmpty) _ _
      rw [em]
      cases s' with
      | nil =>
        refine ⟨nofun, fun _ => ⟨nofun, fun _ => ⟨fun _ => ?_, nofun⟩⟩⟩
        have hr : r = .ok (w, k) := by
          have hu : (Except.ok ([], w, k) : Except Nat (Stk × FT × Nat)) = upM (cl z) s v j := hu
          rcases i3 with ⟨e', h1, h2⟩ | ⟨w', k', h1, h2⟩ | ⟨s2', w', k', h1, h2, _⟩
          · rw [← hu] at h1; cases h1
          · rw [← hu] at h1; cases h1; exact h2
          · rw [← hu] at h1; cases h1; exact absurd rfl h2
        subst hr
        unfold lrD at q
        dsimp only at q
        refine ⟨sz, fun h => ?_, fun h => ?_⟩
        · have h : ((k : Nat) : Int) = ((z.length : Nat) : Int) := of_decide_eq_true h
          rw [if_pos (by omega)] at q
          exact q
        · have h : ¬ ((k : Nat) : Int) = ((z.length : Nat) : Int) := of_decide_eq_false h
          rw [if_neg (by omega)] at q
          exact q
      | cons e r' =>
        refine ⟨fun _ => ?_, nofun⟩
        refine ⟨_, encW_top e r', rfl, ?_⟩
        cases e with
        | some p =>
          obtain ⟨w2, a⟩ := p
          refine ⟨fun _ => ⟨fun _ => ?_, nofun⟩, nofun⟩
          refine ⟨_, encW_top _ r', rfl, nofun, fun _ => ?_⟩
          refine ⟨_, encW_top _ r', by rw [sizeLine_eq]; show 3 ≤ 16777216; decide, ?_⟩
          refine ⟨rfl, nofun, fun _ => ⟨sz, ?_⟩⟩
          rw [cut_sg hk]
          by_cases h41 : (cl z)[k]? = some 41
          · rw [sg_some h41, l2]
            have il := (List.getElem?_eq_some_iff.mp h41).1
            have ue : upM (cl z) (some (w2, a) :: r') w k = upM (cl z) r' (w2.ft a w) (k + 1) := by
              conv => lhs; unfold upM
              rw [if_pos h41]
            unfold UpOk at uo
            refine ⟨fun h => ?_, fun _ => ⟨_, (encW_pop _ r').1, ⟨r', w2.ft a w, k + 1, _, _, by rw [(encW_pop _ r').2, W3.pd]; rfl, by omega, by omega, so'.tail, uo.2 h41, by rw [← ue]; exact hu⟩, ?_⟩⟩
            · have h : (!decide (o1 41 = o1 41)) = true := h
              rw [decide_eq_true rfl] at h; cases h
            · show (encW (some (w2, a) :: r')).dropLast.length < (encW (some (w2, a) :: r')).length
              rw [(encW_pop _ r').2, encW_len, encW_len, List.length_cons]
              exact Nat.lt_succ_self _
          · have ue : upM (cl z) (some (w2, a) :: r') w k = .error k := by
              unfold upM
              rw [if_neg h41]
            have qq := err k (by rw [← hu]; exact ue)
            refine ⟨fun _ => qq, fun h => ?_⟩
            have h : (!decide (sg z k = ")")) = false := h
            cases e2 : (cl z)[k]? with
            | none => rw [sg_none e2] at h; exact absurd h (by decide)
            | some c =>
              rw [sg_some e2, l2] at h
              have : o1 c = o1 41 := by simpa using h
              rw [o1_eq] at this
              rw [e2, this] at h41
              exact absurd rfl h41
        | none =>
          refine ⟨nofun, fun _ => ⟨sz, ?_⟩⟩
          rw [cut_sg hk]
          by_cases h94 : (cl z)[k]? = some 94
          · rw [sg_some h94, l7]
            have il := (List.getElem?_eq_some_iff.mp h94).1
            refine ⟨fun _ => ?_, fun h => ?_⟩
            rotate_left
            · have h : decide (o1 94 = o1 94) = false := h
              rw [decide_eq_true rfl] at h; cases h
            refine ⟨_, encW_top _ r', rfl, fun _ => ?_, nofun⟩
            refine ⟨rfl, z, k + 1, rfl, by omega, by omega, ?_⟩
            cases hf : figM (cl z) false (k + 1) with
            | none =>
              rw [figD_none hf]
              have qq := err (k + 1) (by rw [← hu]; exact up_none h94 hf)
              exact ⟨rfl, nofun, fun _ => ⟨rfl, fun _ => ⟨fun _ => qq, nofun⟩, nofun⟩⟩
            | some p =>
              obtain ⟨b, n⟩ := p
              rw [figD_some hf]
              have bl := figM_le hf
              obtain ⟨t1, t2⟩ := fig_text hf hz
              refine ⟨rfl, fun _ => ⟨sz, _, t1, t2, ?_⟩, nofun⟩
              refine ⟨rfl, nofun, fun _ => ⟨sz, ?_⟩⟩
              rw [cut_sg (show b ≤ z.length by omega)]
              by_cases h41 : (cl z)[b]? = some 41
              · rw [sg_some h41, l2]
                have il := (List.getElem?_eq_some_iff.mp h41).1
                have ue : upM (cl z) (none :: r') w k = upM (cl z) r' (.pow w n) (b + 1) := by rw [up_pow h94 hf, if_pos h41]
                unfold UpOk at uo
                refine ⟨fun h => ?_, fun _ => ⟨_, (encW_pop _ r').1, ⟨r', .pow w n, b + 1, _, _, by rw [(encW_pop _ r').2]; rfl, by omega, by omega, so'.tail, uo.2 b n h94 hf h41, by rw [← ue]; exact hu⟩, ?_⟩⟩
                · have h : (!decide (o1 41 = o1 41)) = true := h
                  rw [decide_eq_true rfl] at h; cases h
                · show (encW (none :: r')).dropLast.length < (encW (none :: r')).length
                  rw [(encW_pop _ r').2, encW_len, encW_len, List.length_cons]
                  exact Nat.lt_succ_self _
              · have ue : upM (cl z) (none :: r') w k = .error b := by rw [up_pow h94 hf, if_neg h41]
                have qq := err b (by rw [← hu]; exact ue)
                refine ⟨fun _ => qq, fun h => ?_⟩
                have h : (!decide (sg z b = ")")) = false := h
                cases e2 : (cl z)[b]? with
                | none => rw [sg_none e2] at h; exact absurd h (by decide)
                | some c =>
                  rw [sg_some e2, l2] at h
                  have : o1 c = o1 41 := by simpa using h
                  rw [o1_eq] at this
                  rw [e2, this] at h41
                  exact absurd rfl h41
          · refine ⟨fun h => ?_, fun _ => ?_⟩
            · have h : sg z k = "^" := of_decide_eq_true h
              cases e2 : (cl z)[k]? with
              | none => rw [sg_none e2] at h; exact absurd h (by decide)
              | some c =>
                rw [sg_some e2, l7, o1_eq] at h
                rw [e2, h] at h94
                exact absurd rfl h94
            show brB ((encW (none :: r')).isEmpty) _ _
            rw [em]
            refine ⟨nofun, fun _ => ⟨sz, ?_⟩⟩
            rw [cut_sg hk]
            refine ⟨rfl, _, rfl, rfl, ?_⟩
            cases e2 : (cl z)[k]? with
            | none =>
              rw [sg_none e2]
              have qq := err k (by rw [← hu]; exact up_out h94 (fun c hc => by rw [e2] at hc; cases hc))
              exact ⟨fun _ => qq, nofun⟩
            | some c =>
              rw [sg_some e2]
              have il := (List.getElem?_eq_some_iff.mp e2).1
              show brB (!([PyData.str "+", .str "-", .str "*"].any fun z => PyData.eqv z (.str (o1 c)))) _ _
              rw [ops_any]
              cases hw : w3 c with
              | none =>
                have qq := err k (by rw [← hu]; exact up_out h94 (fun d hd => by rw [e2] at hd; cases hd; exact hw))
                exact ⟨fun _ => qq, nofun⟩
              | some w2 =>
                refine ⟨nofun, fun _ => ?_⟩
                have ue := up_on (r := r') (v := w) e2 hw
                rw [hu] at ue
                have i4 : StOk 4000 (some (w2, w) :: r') ∧ Reads (cl z) 4000 (some (w2, w) :: r') (k + 1) r := by
                  rcases i3 with ⟨e', h1, h2⟩ | ⟨w', k', h1, h2⟩ | ⟨s2', w', k', h1, h2, h3, h4⟩
                  · rw [ue] at h1; cases h1
                  · rw [ue] at h1; cases h1
                  · rw [ue] at h1; cases h1; exact ⟨h3, h4⟩
                have cs : (c = 43 ∧ w2 = .add) ∨ (c = 45 ∧ w2 = .sub) ∨ (c = 42 ∧ w2 = .mul) := by
                  unfold w3 at hw
                  split at hw
                  · rename_i x; cases hw; exact .inl ⟨x, rfl⟩
                  · split at hw
                    · rename_i x; cases hw; exact .inr (.inl ⟨x, rfl⟩)
                    · split at hw
                      · rename_i x; cases hw; exact .inr (.inr ⟨x, rfl⟩)
                      · cases hw
                have fin : ∀ (s4 s5 : Option Lc), (∃ (s : Stk) (i : Nat) (s3' s4' s5' : Option Lc), [some (Lc.d (.str z)), some (.d (.int (((k : Nat) : Int) + 1))), some (.ls none ((encW (none :: r')).set (encW r').length (.tuple [.str w2.str, w.pd]))), some (.d w.pd), s4, s5] = [some (.d (.str z)), some (.d (.int ((i : Nat) : Int))), some (.ls none (encW s)), s3', s4', s5'] ∧ i ≤ z.length ∧ StOk 4000 s ∧ Reads (cl z) 4000 s i r) ∧ z.length + 1 - (((k : Nat) : Int) + 1).toNat < z.length + 1 - (((i0 : Nat) : Int)).toNat := fun s4 s5 =>
                  ⟨⟨_, k + 1, _, _, _, by rw [show (PyData.tuple [.str w2.str, w.pd]) = encL (some (w2, w)) from rfl, encW_set]; rfl, by omega, i4.1, i4.2⟩, by omega⟩
                rcases cs with ⟨rfl, rfl⟩ | ⟨rfl, rfl⟩ | ⟨rfl, rfl⟩
                · exact ⟨sz, _, at_o1 e2, .inr (o1 43), .str "add", rfl, by rw [← l4]; rfl, _, encW_ix none r', fin _ _⟩
                · exact ⟨sz, _, at_o1 e2, .inr (o1 45), .str "sub", rfl, by rw [← l5]; rfl, _, encW_ix none r', fin _ _⟩
                · exact ⟨sz, _, at_o1 e2, .inr (o1 42), .str "mul", rfl, by rw [← l3]; rfl, _, encW_ix none r', fin _ _⟩
end DL
namespace DL
open PySem L2 PyProof.Rows
def lr : FT → Nat
  | .pow a n => if 16 < lr a then 17 else max 1 (n * lr a)
  | .mul a b => if 16 < lr a ∨ 16 < lr b then 17 else lr a + lr b
  | .add a b | .sub a b => if 16 < lr a ∨ 16 < lr b then 17 else max (lr a) (lr b)
  | _ => 1
theorem lr_gr : ∀ f : FT, (lr f ≤ 16 ↔ gr f ≤ 16) ∧ (gr f ≤ 16 → lr f = rch f)
  | .int _ => ⟨by simp [lr, gr], fun _ => rfl⟩
  | .x => ⟨by simp [lr, gr], fun _ => rfl⟩
  | .y => ⟨by simp [lr, gr], fun _ => rfl⟩
  | .add a b => by
    have ha := lr_gr a
    have hb := lr_gr b
    simp only [lr, gr, rch]
    split <;> omega
  | .sub a b => by
    have ha := lr_gr a
    have hb := lr_gr b
    simp only [lr, gr, rch]
    split <;> omega
  | .mul a b => by
    have ha := lr_gr a
    have hb := lr_gr b
    simp only [lr, gr, rch]
    split <;> omega
  | .pow a n => by
    have ha := lr_gr a
    simp only [lr, gr, rch]
    split
    · omega
    · rename_i h
      have e : lr a = rch a := ha.2 (ha.1.mp (by omega))
      rw [e]
      omega
def S_lreach (d : Nat) : FSpec := ⟨fun args Q => ∃ f : FT, args = [.d f.pd] ∧ f.lev ≤ d ∧ f.wfb = true ∧ Q (.d (.int ((lr f : Nat) : Int))) []⟩
theorem S_lreach0 : ∀ args Q, ¬ (S_lreach 0).sp args Q := by
  rintro args Q ⟨f, _, h, _⟩
  have := f.lev_pos
  omega
abbrev N_law_reach_192f : List Str := ["value", "one", "other"]
def ir_law_reach_192f (S_law_reach_192f : FSpec) : TSt :=
  (sSeq (sIf (tNotD (tVal (dIsi "tuple" (.s 0)))) (sRet (fD (dC (.int 1)))) sNext)
    (sSeq (sAsg 1 (fCall S_law_reach_192f (aCons (.e (dBin bIx (.s 0) (.e (dC (.int 1))))) aNil)))
    (sSeq (sAsg 2 (fD (dIte (tVal (dBin cEq (.e (dBin bIx (.s 0) (.e (dC (.int 0))))) (.e (dC (.str "pow"))))) (dC (.int 0)) (dFz (fCall S_law_reach_192f (aCons (.e (dBin bIx (.s 0) (.e (dC (.int 2))))) aNil))))))
    (sSeq (sIf (tOrD (tVal (dBin cGt (.s 1) (.e (dC (.int 16))))) (tVal (dBin cGt (.s 2) (.e (dC (.int 16)))))) (sRet (fD (dC (.int 17)))) sNext)
    (sSeq (sIf (tVal (dBin cEq (.e (dBin bIx (.s 0) (.e (dC (.int 0))))) (.e (dC (.str "pow"))))) (sRet (fD (dBi bMax2 (aCons (.e (dC (.int 1))) (aCons (.e (dBi bInt (aCons (.e (dBin bMulI (.e (dBin bIx (.s 0) (.e (dC (.int 2))))) (.s 1))) aNil))) aNil))))) sNext)
    (sRet (fD (dIte (tVal (dBin cEq (.e (dBin bIx (.s 0) (.e (dC (.int 0))))) (.e (dC (.str "mul"))))) (dBin bAdd (.s 1) (.s 2)) (dBi bMax2 (aCons (.e (dBi bInt (aCons (.s 1) aNil))) (aCons (.e (dBi bInt (aCons (.s 2) aNil))) aNil)))))))))))
theorem sp_lreach (d : Nat) : ∀ args Q, (S_lreach (d + 1)).sp args Q → ir_law_reach_192f (S_lreach d) (endsOf args Q) (rho0 N_law_reach_192f args) := by
  rintro args Q ⟨f, rfl, hl, hw, q⟩
  have mx : ∀ a b : Nat, (if ((b : Nat) : Int) > ((a : Nat) : Int) then ((b : Nat) : Int) else ((a : Nat) : Int)) = ((max a b : Nat) : Int) := fun a b => by split <;> omega
  cases f with
  | int i => exact ⟨rfl, fun _ => q, nofun⟩
  | x => exact ⟨rfl, fun _ => q, nofun⟩
  | y => exact ⟨rfl, fun _ => q, nofun⟩
  | pow a n =>
    simp only [FT.lev] at hl
    simp only [FT.wfb, Bool.and_eq_true, decide_eq_true_iff] at hw
    refine ⟨rfl, nofun, fun _ => ?_⟩
    refine ⟨_, rfl, rfl, a, rfl, by omega, hw.2, ?_⟩
    refine ⟨_, rfl, fun _ => ?_, nofun⟩
    refine ⟨fun h => ⟨fun _ => ?_, nofun⟩, fun h => ?_⟩
    · have h : 16 < ((lr a : Nat) : Int) := of_decide_eq_true h
      have e : lr (.pow a n) = 17 := by simp only [lr]; rw [if_pos (by omega)]
      rw [e] at q
      exact q
    · have h : ¬ 16 < ((lr a : Nat) : Int) := of_decide_eq_false h
      have e : lr (.pow a n) = max 1 (n * lr a) := by simp only [lr]; rw [if_neg (by omega)]
      refine ⟨nofun, fun _ => ⟨_, rfl, fun _ => ?_, nofun⟩⟩
      have e3 : ((n : Nat) : Int) * ((lr a : Nat) : Int) = ((n * lr a : Nat) : Int) := by exact_mod_cast rfl
      have em : (if ((n : Nat) : Int) * ((lr a : Nat) : Int) > 1 then ((n : Nat) : Int) * ((lr a : Nat) : Int) else 1) = ((lr (.pow a n) : Nat) : Int) := by
        rw [e3, e]
        exact mx 1 (n * lr a)
      rw [← em] at q
      exact ⟨_, rfl, mulOk 40 40 (by rw [Int.natAbs_natCast]; omega) (by rw [Int.natAbs_natCast]; omega), q⟩
  | mul a b =>
    simp only [FT.lev] at hl
    simp only [FT.wfb, Bool.and_eq_true] at hw
    refine ⟨rfl, nofun, fun _ => ?_⟩
    refine ⟨_, rfl, rfl, a, rfl, by omega, hw.1, ?_⟩
    refine ⟨_, rfl, nofun, fun _ => ?_⟩
    refine ⟨_, rfl, rfl, b, rfl, by omega, hw.2, ?_⟩
    refine ⟨fun h => ⟨fun _ => ?_, nofun⟩, fun h => ⟨fun h2 => ?_, fun h2 => ?_⟩⟩
    · have h : 16 < ((lr a : Nat) : Int) := of_decide_eq_true h
      have e : lr (.mul a b) = 17 := by simp only [lr]; rw [if_pos (.inl (by omega))]
      rw [e] at q
      exact q
    · have h2 : 16 < ((lr b : Nat) : Int) := of_decide_eq_true h2
      have e : lr (.mul a b) = 17 := by simp only [lr]; rw [if_pos (.inr (by omega))]
      rw [e] at q
      exact q
    · have h : ¬ 16 < ((lr a : Nat) : Int) := of_decide_eq_false h
      have h2 : ¬ 16 < ((lr b : Nat) : Int) := of_decide_eq_false h2
      have e : lr (.mul a b) = lr a + lr b := by simp only [lr]; rw [if_neg (by omega)]
      refine ⟨_, rfl, nofun, fun _ => ?_⟩
      have e4 : ((lr a : Nat) : Int) + ((lr b : Nat) : Int) = ((lr (.mul a b) : Nat) : Int) := by rw [e]; omega
      rw [← e4] at q
      exact ⟨_, rfl, fun _ => q, nofun⟩
  | add a b =>
    simp only [FT.lev] at hl
    simp only [FT.wfb, Bool.and_eq_true] at hw
    refine ⟨rfl, nofun, fun _ => ?_⟩
    refine ⟨_, rfl, rfl, a, rfl, by omega, hw.1, ?_⟩
    refine ⟨_, rfl, nofun, fun _ => ?_⟩
    refine ⟨_, rfl, rfl, b, rfl, by omega, hw.2, ?_⟩
    refine ⟨fun h => ⟨fun _ => ?_, nofun⟩, fun h => ⟨fun h2 => ?_, fun h2 => ?_⟩⟩
    · have h : 16 < ((lr a : Nat) : Int) := of_decide_eq_true h
      have e : lr (.add a b) = 17 := by simp only [lr]; rw [if_pos (.inl (by omega))]
      rw [e] at q
      exact q
    · have h2 : 16 < ((lr b : Nat) : Int) := of_decide_eq_true h2
      have e : lr (.add a b) = 17 := by simp only [lr]; rw [if_pos (.inr (by omega))]
      rw [e] at q
      exact q
    · have h : ¬ 16 < ((lr a : Nat) : Int) := of_decide_eq_false h
      have h2 : ¬ 16 < ((lr b : Nat) : Int) := of_decide_eq_false h2
      have e : lr (.add a b) = max (lr a) (lr b) := by simp only [lr]; rw [if_neg (by omega)]
      refine ⟨_, rfl, nofun, fun _ => ?_⟩
      rw [e, ← mx] at q
      exact ⟨_, rfl, nofun, fun _ => q⟩
  | sub a b =>
    simp only [FT.lev] at hl
    simp only [FT.wfb, Bool.and_eq_true] at hw
    refine ⟨rfl, nofun, fun _ => ?_⟩
    refine ⟨_, rfl, rfl, a, rfl, by omega, hw.1, ?_⟩
    refine ⟨_, rfl, nofun, fun _ => ?_⟩
    refine ⟨_, rfl, rfl, b, rfl, by omega, hw.2, ?_⟩
    refine ⟨fun h => ⟨fun _ => ?_, nofun⟩, fun h => ⟨fun h2 => ?_, fun h2 => ?_⟩⟩
    · have h : 16 < ((lr a : Nat) : Int) := of_decide_eq_true h
      have e : lr (.sub a b) = 17 := by simp only [lr]; rw [if_pos (.inl (by omega))]
      rw [e] at q
      exact q
    · have h2 : 16 < ((lr b : Nat) : Int) := of_decide_eq_true h2
      have e : lr (.sub a b) = 17 := by simp only [lr]; rw [if_pos (.inr (by omega))]
      rw [e] at q
      exact q
    · have h : ¬ 16 < ((lr a : Nat) : Int) := of_decide_eq_false h
      have h2 : ¬ 16 < ((lr b : Nat) : Int) := of_decide_eq_false h2
      have e : lr (.sub a b) = max (lr a) (lr b) := by simp only [lr]; rw [if_neg (by omega)]
      refine ⟨_, rfl, nofun, fun _ => ?_⟩
      rw [e, ← mx] at q
      exact ⟨_, rfl, nofun, fun _ => q⟩
def layN : Nat → List FT → List (List FT)
  | 0, _ => []
  | n + 1, l => if l.isEmpty then [] else l :: layN n (l.flatMap FT.kids)
def lysD (ls : List (List FT)) : List PD := ls.map fun l => .list (l.map FT.pd)
theorem lay_sum : ∀ (n : Nat) (l : List FT), (∀ f ∈ l, f.lev ≤ n) → ((layN n l).map List.length).sum = szL l
  | 0, l, h => by
    cases l with
    | nil => rfl
    | cons f r =>
      have a := h f List.mem_cons_self
      have b := f.lev_pos
      omega
  | n + 1, l, h => by
    unfold layN
    cases l with
    | nil => rfl
    | cons f r =>
      rw [if_neg (by simp), List.map_cons, List.sum_cons, lay_sum n _ (fun k hk => by
        obtain ⟨g, hg, hk⟩ := List.mem_flatMap.mp hk
        exact (g.lev_kids n).mp (h g hg) k hk), ← szL_kids]
theorem lay_wfb : ∀ (n : Nat) (l : List FT), (∀ f ∈ l, f.lev ≤ n) → ((∀ y ∈ layN n l, ∀ f ∈ y, f.good1 = true) ↔ ∀ f ∈ l, f.wfb = true)
  | 0, l, h => by
    cases l with
    | nil => exact ⟨fun _ f hf => (by cases hf), fun _ y hy => (by cases hy)⟩
    | cons f r =>
      have a := h f List.mem_cons_self
      have b := f.lev_pos
      omega
  | n + 1, l, h => by
    unfold layN
    cases l with
    | nil => exact ⟨fun _ f hf => (by cases hf), fun _ y hy => (by cases hy)⟩
    | cons f r =>
      have ih := lay_wfb n ((f :: r).flatMap FT.kids) (fun k hk => by
        obtain ⟨g, hg, hk⟩ := List.mem_flatMap.mp hk
        exact (g.lev_kids n).mp (h g hg) k hk)
      rw [if_neg (by simp)]
      simp only [List.forall_mem_cons (a := f :: r)]
      rw [ih]
      constructor
      · rintro ⟨h1, h2⟩ g hg
        exact (g.wfb_kids).mpr ⟨h1 g hg, fun k hk => h2 k (List.mem_flatMap.mpr ⟨g, hg, hk⟩)⟩
      · intro h1
        refine ⟨fun g hg => ((g.wfb_kids).mp (h1 g hg)).1, fun k hk => ?_⟩
        obtain ⟨g, hg, hk⟩ := List.mem_flatMap.mp hk
        exact ((g.wfb_kids).mp (h1 g hg)).2 k hk
theorem lay_len : ∀ (n : Nat) (l : List FT), (layN n l).length ≤ n
  | 0, l => Nat.le_refl _
  | n + 1, l => by
    unfold layN
    split
    · exact Nat.zero_le _
    · rw [List.length_cons]; exact Nat.succ_le_succ (lay_len n _)
theorem lay_deep : ∀ (n : Nat) (l : List FT) (k : Nat), (∀ f ∈ l, f.lev ≤ n) → k < (layN n l).length → ∃ f ∈ l, k < f.lev
  | 0, l, k, h, hk => absurd hk (Nat.not_lt_zero _)
  | n + 1, l, k, h, hk => by
    unfold layN at hk
    cases l with
    | nil => exact absurd hk (Nat.not_lt_zero _)
    | cons f r =>
      rw [if_neg (by simp), List.length_cons] at hk
      cases k with
      | zero => exact ⟨f, List.mem_cons_self, f.lev_pos⟩
      | succ k =>
        obtain ⟨g, hg, hgk⟩ := lay_deep n ((f :: r).flatMap FT.kids) k (fun k hk => by
          obtain ⟨g, hg, hk⟩ := List.mem_flatMap.mp hk
          exact (g.lev_kids n).mp (h g hg) k hk) (by omega)
        obtain ⟨p, hp, hgp⟩ := List.mem_flatMap.mp hg
        refine ⟨p, hp, ?_⟩
        rcases Nat.lt_or_ge (k + 1) p.lev with q | q
        · exact q
        · have := (p.lev_kids k).mp q g hgp
          omega
theorem lay_cover : ∀ (n : Nat) (l : List FT) (k : Nat), (∀ f ∈ l, f.lev ≤ n) → (∃ f ∈ l, k < f.lev) → k < (layN n l).length
  | 0, l, k, h, ⟨f, hf, hk⟩ => by
    have := h f hf
    have := f.lev_pos
    omega
  | n + 1, l, k, h, ⟨f, hf, hk⟩ => by
    unfold layN
    cases l with
    | nil => cases hf
    | cons g r =>
      rw [if_neg (by simp), List.length_cons]
      cases k with
      | zero => exact Nat.succ_pos _
      | succ k =>
        have ih := lay_cover n ((g :: r).flatMap FT.kids) k (fun k hk => by
          obtain ⟨g, hg, hk⟩ := List.mem_flatMap.mp hk
          exact (g.lev_kids n).mp (h g hg) k hk) (by
          refine Classical.byContradiction fun c => ?_
          have all : f.lev ≤ k + 1 := (f.lev_kids k).mpr fun q hq => by
            rcases Nat.lt_or_ge k q.lev with z | z
            · exact absurd ⟨q, List.mem_flatMap.mpr ⟨f, hf, hq⟩, z⟩ c
            · exact z
          omega)
        omega
theorem isF_lev62 {f : FT} (h : 17 ≤ f.lev) : isF f = false := by
  rw [isF_eq, decide_eq_false (show ¬ f.lev ≤ 16 by omega)]; rfl
theorem lay_mem : ∀ (n : Nat) (l : List FT) (y : List FT), y ∈ layN n l → y.length ≤ szL l
  | 0, l, y, h => by cases h
  | n + 1, l, y, h => by
    unfold layN at h
    split at h
    · cases h
    · rcases List.mem_cons.mp h with rfl | h
      · rw [szL_kids]; omega
      · have := lay_mem n _ y h
        rw [szL_kids]; omega
def S_layers : FSpec := ⟨fun args Q => ∃ f : FT, args = [.d f.pd] ∧ f.lev ≤ 4000 ∧ f.size ≤ 100000 ∧ Q (.ls none (lysD (layN 4000 [f]))) []⟩
def at1Ls (ρ : En) : Nat := match (ρ[1]? : Option (Option Lc)) with
  | some (some (Lc.ls _ xs)) => xs.length
  | _ => 0
abbrev N_law_layers_5512 : List Str := ["value", "found", "layer", "later", "one"]
def ir_law_layers_5512 : TSt :=
  (sSeq (sPar 1 2 (fLst aNil) (fLst (aCons (.e (dVar 0)) aNil)))
    (sSeq (sWhile (tVal (dBin (cNil true) (.s 2) (.e (dFz (fLst aNil))))) (sSeq (sApp 1 (dVar 2))
    (sSeq (sAsg 3 (fLst aNil))
    (sSeq (sFor (iSeq (dVar 2)) (.nm 4) (sIf (tVal (dIsi "tuple" (.s 4))) (sExt 3 (.e (dIte (tVal (dBin cEq (.e (dBin bIx (.s 4) (.e (dC (.int 0))))) (.e (dC (.str "pow"))))) (dFz (fLst (aCons (.e (dBin bIx (.s 4) (.e (dC (.int 1))))) aNil))) (dFz (fLst (aCons (.e (dBin bIx (.s 4) (.e (dC (.int 1))))) (aCons (.e (dBin bIx (.s 4) (.e (dC (.int 2))))) aNil))))))) sNext))
    (sAsg 2 (fD (dVar 3)))))))
    (sRetV 1)))
theorem sp_layers : ∀ args Q, S_layers.sp args Q → ir_law_layers_5512 (endsOf args Q) (rho0 N_law_layers_5512 args) := by
  rintro args Q ⟨f, rfl, hl, hs, q⟩
  refine ⟨fun ρ => ∃ (n : Nat) (fs : List (List FT)) (layer : List FT) (l : Lc) (s3 s4 : Option Lc), ρ = [some (.d f.pd), some (.ls none (lysD fs)), some l, s3, s4] ∧ (l = .d (.list (layer.map FT.pd)) ∨ l = .ls none (layer.map FT.pd)) ∧ fs.length + n = 4000 ∧ (∀ g ∈ layer, g.lev ≤ n) ∧ szL layer ≤ 100000 ∧ fs ++ layN n layer = layN 4000 [f], fun ρ => 10000 - at1Ls ρ, ⟨4000, [], [f], _, none, none, rfl, .inr rfl, rfl, fun g hg => (by rw [List.mem_singleton.mp hg]; exact hl), hs, List.nil_append _⟩, ?_⟩
  rintro ρ ⟨n, fs, layer, l, s3, s4, rfl, hll, hn, hlv, hsz, hh⟩
  have em : (layer.map FT.pd).isEmpty = layer.isEmpty := List.isEmpty_map
  have fl : (lysD fs).length = fs.length := List.length_map _
  rcases hll with rfl | rfl
  all_goals
    show brB (!(layer.map FT.pd).isEmpty) _ _
    rw [em]
    cases layer with
    | nil =>
      refine ⟨nofun, fun _ => ?_⟩
      have e0 : layN n [] = [] := by cases n <;> rfl
      rw [e0, List.append_nil] at hh
      rw [hh]
      exact .inl q
    | cons g0 rest =>
      refine ⟨fun _ => ?_, nofun⟩
      obtain ⟨m, rfl⟩ : ∃ m, n = m + 1 := ⟨n - 1, by have := hlv g0 List.mem_cons_self; have := g0.lev_pos; omega⟩
      have e1 : layN (m + 1) (g0 :: rest) = (g0 :: rest) :: layN m ((g0 :: rest).flatMap FT.kids) := by
        rw [layN, if_neg (by simp)]
      rw [e1] at hh
      generalize hL : g0 :: rest = layer at hh hlv hsz ⊢
      have zk := szL_kids layer
      refine ⟨by rw [fl, sizeLine_eq]; omega, ?_⟩
      refine ⟨_, rfl, fun j ρ => ∃ (later : List FT) (s4 : Option Lc), ρ = [some (.d f.pd), some (.ls none (lysD fs ++ [.list (layer.map FT.pd)])), some (.d (.list (layer.map FT.pd))), some (.ls none (later.map FT.pd)), s4] ∧ later.length ≤ 2 * j ∧ later = (layer.take j).flatMap FT.kids, ⟨[], s4, rfl, by decide, by rw [List.take_zero]; rfl⟩, ?_, ?_⟩
      · rintro j z ρ hz ⟨later, s4, rfl, hlen, hlt⟩
        have hz : (layer.map FT.pd)[j]? = some z := hz
        rw [List.getElem?_map] at hz
        obtain ⟨g, hg, rfl⟩ := Option.map_eq_some_iff.mp hz
        have jl := (List.getElem?_eq_some_iff.mp hg).1
        have tk : (layer.take (j + 1)).flatMap FT.kids = later ++ g.kids := by
          rw [List.take_add_one, hg, List.flatMap_append, ← hlt]; simp
        have sz : ∀ k : Nat, k ≤ 2 → later.length + k ≤ sizeLine := fun k hk => by rw [sizeLine_eq]; omega
        have fin : ∀ ks : List FT, g.kids = ks → ∃ (later' : List FT) (s4' : Option Lc), [some (Lc.d f.pd), some (.ls none (lysD fs ++ [.list (layer.map FT.pd)])), some (.d (.list (layer.map FT.pd))), some (.ls none (later.map FT.pd ++ ks.map FT.pd)), some (.d g.pd)] = [some (.d f.pd), some (.ls none (lysD fs ++ [.list (layer.map FT.pd)])), some (.d (.list (layer.map FT.pd))), some (.ls none (later'.map FT.pd)), s4'] ∧ later'.length ≤ 2 * (j + 1) ∧ later' = (layer.take (j + 1)).flatMap FT.kids := fun ks hk => by
          subst hk
          have kl : g.kids.length ≤ 2 := by cases g <;> simp [FT.kids]
          exact ⟨later ++ g.kids, _, by rw [List.map_append], by rw [List.length_append]; omega, tk.symm⟩
        have sz1 : ∀ x : PD, (later.map FT.pd).length + [x].length ≤ sizeLine := fun x => by rw [List.length_map]; exact sz 1 (by decide)
        have sz2 : ∀ x y : PD, (later.map FT.pd).length + [x, y].length ≤ sizeLine := fun x y => by rw [List.length_map]; exact sz 2 (by decide)
        cases g with
        | int i => exact ⟨rfl, nofun, fun _ => by have := fin [] rfl; rw [List.map_nil, List.append_nil] at this; exact this⟩
        | x => exact ⟨rfl, nofun, fun _ => by have := fin [] rfl; rw [List.map_nil, List.append_nil] at this; exact this⟩
        | y => exact ⟨rfl, nofun, fun _ => by have := fin [] rfl; rw [List.map_nil, List.append_nil] at this; exact this⟩
        | pow a n => exact ⟨rfl, fun _ => ⟨_, rfl, fun _ => ⟨_, rfl, sz1 _, fin [a] rfl⟩, nofun⟩, nofun⟩
        | add a b => exact ⟨rfl, fun _ => ⟨_, rfl, nofun, fun _ => ⟨_, rfl, _, rfl, sz2 _ _, fin [a, b] rfl⟩⟩, nofun⟩
        | sub a b => exact ⟨rfl, fun _ => ⟨_, rfl, nofun, fun _ => ⟨_, rfl, _, rfl, sz2 _ _, fin [a, b] rfl⟩⟩, nofun⟩
        | mul a b => exact ⟨rfl, fun _ => ⟨_, rfl, nofun, fun _ => ⟨_, rfl, _, rfl, sz2 _ _, fin [a, b] rfl⟩⟩, nofun⟩
      · rintro ρ ⟨later, s4, rfl, hlen, hlt⟩
        have el : (layer.map FT.pd).length = layer.length := List.length_map _
        have hlt : later = (layer.take (layer.map FT.pd).length).flatMap FT.kids := hlt
        rw [el, List.take_length] at hlt
        subst hlt
        refine ⟨⟨m, fs ++ [layer], layer.flatMap FT.kids, _, _, _, by unfold lysD; rw [List.map_append]; rfl, .inl rfl, by rw [List.length_append, List.length_singleton]; omega, fun k hk => ?_, by omega, by rw [List.append_assoc]; exact hh⟩, ?_⟩
        · obtain ⟨g, hg, hk⟩ := List.mem_flatMap.mp hk
          exact (g.lev_kids m).mp (hlv g hg) k hk
        · show 10000 - (lysD fs ++ [PyData.list (layer.map FT.pd)]).length < 10000 - (lysD fs).length
          rw [List.length_append, List.length_singleton, fl]
          omega
theorem isF_size62 {f : FT} (h : 201 ≤ f.size) : isF f = false := by
  rw [isF_eq, decide_eq_false (show ¬ f.size ≤ 200 by omega)]; simp
theorem isF_wfb62 {f : FT} (h : f.wfb = false) : isF f = false := by
  rw [isF_eq, h]; simp
def S_lisf : FSpec := ⟨fun args Q => ∃ f : FT, args = [.d f.pd] ∧ f.lev ≤ 4000 ∧ f.size ≤ 100000 ∧ Q (.d (.bool (isF f))) []⟩
abbrev N_law_is_formula_7ea6 : List Str := ["value", "layers", "layer", "one"]
def ir_law_is_formula_7ea6 (S_law_layers_5512 : FSpec) (S_law_reach_192f : FSpec) : TSt :=
  (sSeq (sAsg 1 (fCall S_law_layers_5512 (aCons (.e (dVar 0)) aNil)))
    (sSeq (sIf (tOrD (tVal (dBin cGt (.e (dBi bLen (aCons (.s 1) aNil))) (.e (dC (.int 16))))) (tVal (dBin cGt (.e (dBi bSum (aCons (.e (dFz (fLc (iOwn 1) [2] (.nm 2) cYes (dBi bLen (aCons (.s 2) aNil))))) aNil))) (.e (dC (.int 200)))))) (sRet (fD (dC (.bool false)))) sNext)
    (sSeq (sFor (iSeq (dVar 1)) (.nm 2) (sFor (iSeq (dVar 2)) (.nm 3) (sSeq (sIf (tAndD (tVal (dIsi "int" (.s 3))) (tVal (dBin cGe (.e (dBi bAbs (aCons (.s 3) aNil))) (.e (dBin bPow (.e (dC (.int 10))) (.e (dC (.int 40)))))))) (sRet (fD (dC (.bool false)))) sNext)
    (sIf (tAndD (tVal (dIsi "tuple" (.s 3))) (tAndD (tVal (dBin cEq (.e (dBin bIx (.s 3) (.e (dC (.int 0))))) (.e (dC (.str "pow"))))) (tVal (dBin cGt (.e (dBin bIx (.s 3) (.e (dC (.int 2))))) (.e (dC (.int 16))))))) (sRet (fD (dC (.bool false)))) sNext))))
    (sRet (fD (dBin cLe (.e (dFz (fCall S_law_reach_192f (aCons (.e (dVar 0)) aNil)))) (.e (dC (.int 16)))))))))
theorem lys_get {ls : List (List FT)} {i : Nat} {x : PD} (h : (lysD ls)[i]? = some x) : ∃ l, ls[i]? = some l ∧ x = .list (l.map FT.pd) := by
  unfold lysD at h
  rw [List.getElem?_map] at h
  obtain ⟨l, hl, rfl⟩ := Option.map_eq_some_iff.mp h
  exact ⟨l, hl, rfl⟩
theorem sum_nat (ns : List Nat) : (ns.map fun n => ((n : Nat) : Int)).sum = ((ns.sum : Nat) : Int) := by
  induction ns with
  | nil => rfl
  | cons n r ih => rw [List.map_cons, List.sum_cons, List.sum_cons, ih]; omega
set_option maxHeartbeats 4000000 in
theorem sp_lisf : ∀ args Q, S_lisf.sp args Q → ir_law_is_formula_7ea6 S_layers (S_lreach 16) (endsOf args Q) (rho0 N_law_is_formula_7ea6 args) := by
  rintro args Q ⟨f, rfl, hl, hs, q⟩
  have hlv : ∀ g ∈ [f], g.lev ≤ 4000 := fun g hg => by rw [List.mem_singleton.mp hg]; exact hl
  have sum := lay_sum 4000 [f] hlv
  have all := lay_wfb 4000 [f] hlv
  have len := lay_len 4000 [f]
  have mem := lay_mem 4000 [f]
  have es : szL [f] = f.size := rfl
  rw [es] at sum mem
  have deep := fun h => lay_deep 4000 [f] 16 hlv h
  have cover := fun h => lay_cover 4000 [f] 16 hlv h
  generalize hL : layN 4000 [f] = L at sum all len mem deep cover
  have ll : (lysD L).length = L.length := List.length_map _
  refine ⟨rfl, f, rfl, hl, hs, ?_⟩
  rw [hL]
  refine ⟨fun h => ?_, fun h16 => ?_⟩
  · have h : 16 < (((lysD L).length : Nat) : Int) := of_decide_eq_true h
    obtain ⟨g, hg, hgl⟩ := deep (by omega)
    rw [List.mem_singleton.mp hg] at hgl
    rw [isF_lev62 hgl] at q
    exact ⟨fun _ => q, nofun⟩
  have h16 : ¬ 16 < (((lysD L).length : Nat) : Int) := of_decide_eq_false h16
  have l16 : f.lev ≤ 16 := by
    rcases Nat.lt_or_ge 16 f.lev with z | z
    · have := cover ⟨f, List.mem_cons_self, z⟩
      omega
    · exact z
  refine ⟨⟨rfl, rfl⟩, fun i acc ρ => acc = (L.take i).map (fun l => PyData.int ((l.length : Nat) : Int)) ∧ ρ = [some (.d f.pd), some (.ls none (lysD L)), none, none], ⟨rfl, rfl⟩, ?_, ?_, ?_⟩
  · rintro i acc ρ ⟨_, rfl⟩
    rfl
  · rintro i z acc ρ hz ⟨rfl, rfl⟩
    obtain ⟨l, hli, rfl⟩ := lys_get hz
    have lm := mem l (List.mem_of_getElem? hli)
    refine ⟨fun _ => ?_, nofun⟩
    refine ⟨?_, ?_, rfl⟩
    · rw [List.length_map, List.length_take, sizeLine_eq]; omega
    · rw [List.take_add_one, hli, Option.toList_some, List.map_append, List.length_map]
      rfl
  · rintro acc ρ ⟨rfl, rfl⟩
    have el : (Wk.own 1 none (lysD L)).list.length = L.length := ll
    rw [el, List.take_length]
    refine ⟨(L.map List.length).map fun n => ((n : Nat) : Int), by rw [List.map_map, List.map_map]; rfl, ?_⟩
    rw [sum_nat, sum]
    refine ⟨fun h => ?_, fun h => ?_⟩
    · have h : 200 < ((f.size : Nat) : Int) := of_decide_eq_true h
      have e : isF f = false := isF_size62 (by omega)
      rw [e] at q
      exact q
    · have h : ¬ 200 < ((f.size : Nat) : Int) := of_decide_eq_false h
      have bad : ∀ l ∈ L, ∀ g ∈ l, g.good1 = false → Q (.d (.bool false)) [] := fun l hl g hg hb => by
        have e : isF f = false := isF_wfb62 (by
          cases hw : f.wfb with
          | false => rfl
          | true =>
            have := all.mpr (fun k hk => by rw [List.mem_singleton.mp hk]; exact hw) l hl g hg
            rw [hb] at this; cases this)
        rw [e] at q
        exact q
      refine ⟨_, rfl, fun i ρ => ∃ s2 s3, ρ = [some (.d f.pd), some (.d (.list (lysD L))), s2, s3] ∧ (∀ y ∈ L.take i, ∀ g ∈ y, g.good1 = true), ⟨none, none, rfl, fun y hy => by rw [List.take_zero] at hy; cases hy⟩, ?_, ?_⟩
      · rintro i z ρ hz ⟨s2, s3, rfl, hg⟩
        obtain ⟨l, hli, rfl⟩ := lys_get hz
        have lmem := List.mem_of_getElem? hli
        refine ⟨_, rfl, fun j ρ => ∃ s3, ρ = [some (.d f.pd), some (.d (.list (lysD L))), some (.d (.list (l.map FT.pd))), s3] ∧ (∀ g ∈ l.take j, g.good1 = true), ⟨s3, rfl, fun y hy => by rw [List.take_zero] at hy; cases hy⟩, ?_, ?_⟩
        · rintro j z ρ hz ⟨s3, rfl, hgj⟩
          have hz : (l.map FT.pd)[j]? = some z := hz
          rw [List.getElem?_map] at hz
          obtain ⟨g, hgl, rfl⟩ := Option.map_eq_some_iff.mp hz
          have gm := List.mem_of_getElem? hgl
          have on : g.good1 = true → ∃ s3', [some (Lc.d f.pd), some (.d (.list (lysD L))), some (.d (.list (l.map FT.pd))), some (.d g.pd)] = [some (Lc.d f.pd), some (.d (.list (lysD L))), some (.d (.list (l.map FT.pd))), s3'] ∧ (∀ g ∈ l.take (j + 1), g.good1 = true) := fun hb => ⟨_, rfl, fun k hk => by
            rw [List.take_add_one, hgl, Option.toList_some] at hk
            rcases List.mem_append.mp hk with hk | hk
            · exact hgj k hk
            · rw [List.mem_singleton.mp hk]; exact hb⟩
          cases g with
          | int i =>
            refine ⟨rfl, fun _ => ⟨powOk (k := 4) (m := 40) (by decide) (by decide) (by decide), fun h => ?_, fun h => ?_⟩, nofun⟩
            · refine bad l lmem _ gm ?_
              have h : (10000000000000000000000000000000000000000 : Int) ≤ (if i < 0 then -i else i) := of_decide_eq_true h
              exact decide_eq_false (by omega)
            · have h : ¬ (10000000000000000000000000000000000000000 : Int) ≤ (if i < 0 then -i else i) := of_decide_eq_false h
              exact ⟨rfl, nofun, fun _ => ⟨nofun, fun _ => on (decide_eq_true (by omega))⟩⟩
          | x => exact ⟨rfl, nofun, fun _ => ⟨nofun, fun _ => ⟨rfl, nofun, fun _ => ⟨nofun, fun _ => on rfl⟩⟩⟩⟩
          | y => exact ⟨rfl, nofun, fun _ => ⟨nofun, fun _ => ⟨rfl, nofun, fun _ => ⟨nofun, fun _ => on rfl⟩⟩⟩⟩
          | pow a n =>
            refine ⟨rfl, nofun, fun _ => ⟨nofun, fun _ => ⟨rfl, fun _ => ⟨_, rfl, fun _ => ⟨_, rfl, fun h => ?_, fun h => ?_⟩, nofun⟩, nofun⟩⟩⟩
            · have h : 16 < ((n : Nat) : Int) := of_decide_eq_true h
              exact bad l lmem _ gm (decide_eq_false (by omega))
            · have h : ¬ 16 < ((n : Nat) : Int) := of_decide_eq_false h
              exact on (decide_eq_true (by omega))
          | add a b => exact ⟨rfl, nofun, fun _ => ⟨nofun, fun _ => ⟨rfl, fun _ => ⟨_, rfl, nofun, fun _ => ⟨nofun, fun _ => on rfl⟩⟩, nofun⟩⟩⟩
          | sub a b => exact ⟨rfl, nofun, fun _ => ⟨nofun, fun _ => ⟨rfl, fun _ => ⟨_, rfl, nofun, fun _ => ⟨nofun, fun _ => on rfl⟩⟩, nofun⟩⟩⟩
          | mul a b => exact ⟨rfl, nofun, fun _ => ⟨nofun, fun _ => ⟨rfl, fun _ => ⟨_, rfl, nofun, fun _ => ⟨nofun, fun _ => on rfl⟩⟩, nofun⟩⟩⟩
        · rintro ρ ⟨s3, rfl, hgj⟩
          have el : (l.map FT.pd).length = l.length := List.length_map _
          have hgj : ∀ g ∈ l.take (l.map FT.pd).length, g.good1 = true := hgj
          rw [el, List.take_length] at hgj
          refine ⟨_, _, rfl, fun y hy => ?_⟩
          rw [List.take_add_one, hli, Option.toList_some] at hy
          rcases List.mem_append.mp hy with hy | hy
          · exact hg y hy
          · rw [List.mem_singleton.mp hy]; exact hgj
      · rintro ρ ⟨s2, s3, rfl, hg⟩
        have hg : ∀ y ∈ L.take (lysD L).length, ∀ g ∈ y, g.good1 = true := hg
        rw [ll, List.take_length] at hg
        have hw : f.wfb = true := all.mp hg f List.mem_cons_self
        refine ⟨rfl, f, rfl, l16, hw, ?_⟩
        have e : isF f = decide (((lr f : Nat) : Int) ≤ 16) := by
          have g := (lr_gr f).1
          rw [isF_eq, hw, decide_eq_true (show f.lev ≤ 16 by omega), decide_eq_true (show f.size ≤ 200 by omega), Bool.true_and, Bool.and_true, Bool.true_and, Bool.eq_iff_iff, decide_eq_true_iff, decide_eq_true_iff]
          omega
        rw [e] at q
        exact q
end DL
namespace DL
open PySem L2 PyProof.Rows
def S_due : FSpec := ⟨fun args Q => ∃ (z : Str) (r : Except Nat (FT × Nat)), args = [.d (.str z)] ∧ z.length ≤ 3100 ∧ Reads (cl z) 4000 [] 0 r ∧ (∀ w k, r = .ok (w, k) → w.lev ≤ 4000 ∧ w.size ≤ 100000 ∧ k ≤ z.length) ∧ Q (.d (askD (rdE z.length r))) []⟩
abbrev N_law_due_08c8 : List Str := ["text", "told"]
def ir_law_due_08c8 (S_law_read_076a : FSpec) (S_law_is_formula_7ea6 : FSpec) : TSt :=
  (sSeq (sAsg 1 (fCall S_law_read_076a (aCons (.e (dVar 0)) aNil)))
    (sSeq (sIf (tAndD (tVal (dBin cEq (.e (dBin bIx (.s 1) (.e (dC (.int 0))))) (.e (dC (.str "is"))))) (tNotD (tVal (dFz (fCall S_law_is_formula_7ea6 (aCons (.e (dBin bIx (.s 1) (.e (dC (.int 1))))) aNil)))))) (sRet (fD (dTup (aCons (.e (dC (.str "at"))) (aCons (.e (dNeg (.e (dC (.int 1))))) aNil))))) sNext)
    (sRetV 1)))
theorem sp_due : ∀ args Q, S_due.sp args Q → ir_law_due_08c8 S_lread S_lisf (endsOf args Q) (rho0 N_law_due_08c8 args) := by
  rintro args Q ⟨z, r, rfl, hz, hR, hw, q⟩
  refine ⟨rfl, z, r, rfl, hz, hR, ?_⟩
  cases r with
  | error e => exact ⟨_, rfl, nofun, fun _ => ⟨nofun, fun _ => q⟩⟩
  | ok p =>
    obtain ⟨w, k⟩ := p
    obtain ⟨wl, ws, kl⟩ := hw w k rfl
    rw [rdE_ok] at q
    by_cases h : k = z.length
    · have e : lrD z.length (.ok (w, k)) = .tuple [.str "is", w.pd] := by unfold lrD; dsimp only; rw [if_pos h]
      rw [e]
      rw [if_neg (by omega)] at q
      refine ⟨_, rfl, fun _ => ⟨_, rfl, rfl, w, rfl, wl, ws, fun h2 => ?_, fun h2 => ?_⟩, nofun⟩
      · have h2 : (!isF w) = true := h2
        rw [if_neg (by intro c; rw [c] at h2; cases h2)] at q
        exact q
      · have h2 : (!isF w) = false := h2
        rw [if_pos (by cases c : isF w <;> rw [c] at h2 <;> first | rfl | cases h2)] at q
        exact q
    · have e : lrD z.length (.ok (w, k)) = .tuple [.str "at", .int (k : Nat)] := by unfold lrD; dsimp only; rw [if_neg h]
      rw [e]
      rw [if_pos (by omega)] at q
      exact ⟨_, rfl, nofun, fun _ => ⟨nofun, fun _ => q⟩⟩
theorem FT.shwB : ∀ {f : FT}, f.wfb = true → Shw f.lev (f.sz 140) f.pd
  | .int i, h => (Shw.int (k := 140) (by
      have h : i.natAbs < 10 ^ 40 := FT.wfb_wf (f := .int i) h
      exact Nat.lt_of_lt_of_le h (by decide +kernel))).mono (Nat.le_refl _) (by simp only [FT.sz]; omega)
  | .x, h => Shw.str (by show _ ≤ 143; exact Nat.le_trans (show (reprText "x").length ≤ 3 by decide +kernel) (by omega))
  | .y, h => Shw.str (by show _ ≤ 143; exact Nat.le_trans (show (reprText "y").length ≤ 3 by decide +kernel) (by omega))
  | .add a b, h => by
    simp only [FT.wfb, Bool.and_eq_true] at h
    have z := Shw.tup3 (n := max a.lev b.lev) (Shw.str (z := 5) (x := "add") (by decide +kernel)) ((FT.shwB h.1).mono (Nat.le_max_left _ _) (Nat.le_refl _)) ((FT.shwB h.2).mono (Nat.le_max_right _ _) (Nat.le_refl _))
    exact z.mono (Nat.le_refl _) (by simp only [FT.sz]; omega)
  | .sub a b, h => by
    simp only [FT.wfb, Bool.and_eq_true] at h
    have z := Shw.tup3 (n := max a.lev b.lev) (Shw.str (z := 5) (x := "sub") (by decide +kernel)) ((FT.shwB h.1).mono (Nat.le_max_left _ _) (Nat.le_refl _)) ((FT.shwB h.2).mono (Nat.le_max_right _ _) (Nat.le_refl _))
    exact z.mono (Nat.le_refl _) (by simp only [FT.sz]; omega)
  | .mul a b, h => by
    simp only [FT.wfb, Bool.and_eq_true] at h
    have z := Shw.tup3 (n := max a.lev b.lev) (Shw.str (z := 5) (x := "mul") (by decide +kernel)) ((FT.shwB h.1).mono (Nat.le_max_left _ _) (Nat.le_refl _)) ((FT.shwB h.2).mono (Nat.le_max_right _ _) (Nat.le_refl _))
    exact z.mono (Nat.le_refl _) (by simp only [FT.sz]; omega)
  | .pow a n, h => by
    simp only [FT.wfb, Bool.and_eq_true, decide_eq_true_iff] at h
    have z := Shw.tup3 (n := a.lev) (Shw.str (z := 5) (x := "pow") (by decide +kernel)) (FT.shwB h.2) (Shw.int (i := (n : Nat)) (k := 20) (by omega))
    exact z.mono (Nat.le_refl _) (by simp only [FT.sz]; omega)
theorem at_shw {e : Int} (h : e.natAbs < 2 ^ 20) : Shw 20 200100 (.tuple [.str "at", .int e]) := (Shw.tup (n := 2) (z := 40) fun x hx => by
  simp only [List.mem_cons, List.not_mem_nil, or_false] at hx
  rcases hx with rfl | rfl
  · exact Shw.str (Nat.le_trans (show (reprText "at").length ≤ 4 by decide +kernel) (by omega))
  · exact (Shw.int (n := 2) h).mono (Nat.le_refl _) (by decide)).mono (by decide) (by simp only [List.length_cons, List.length_nil]; omega)
theorem sz_size : ∀ f : FT, f.sz 140 ≤ 143 * f.size
  | .int _ => Nat.le_refl _
  | .x => Nat.le_refl _
  | .y => Nat.le_refl _
  | .add a b => by have := sz_size a; have := sz_size b; simp only [FT.sz, FT.size]; omega
  | .sub a b => by have := sz_size a; have := sz_size b; simp only [FT.sz, FT.size]; omega
  | .mul a b => by have := sz_size a; have := sz_size b; simp only [FT.sz, FT.size]; omega
  | .pow a n => by have := sz_size a; simp only [FT.sz, FT.size]; omega
theorem isF_parts {f : FT} (h : isF f = true) : f.lev ≤ 16 ∧ f.wfb = true ∧ f.size ≤ 200 := by
  rw [isF_eq] at h
  simp only [Bool.and_eq_true, decide_eq_true_iff] at h
  exact ⟨h.1.1.1, h.1.1.2, h.1.2⟩
theorem asked_shw {n : Nat} {r : Except Nat (FT × Nat)} (h1 : ∀ w k, r = .ok (w, k) → k ≤ 5000) (h2 : ∀ e, r = .error e → e ≤ 5000) : Shw 20 400000 (askD (rdE n r)) := by
  cases r with
  | error e =>
    have := h2 e rfl
    exact (at_shw (e := ((e : Nat) : Int)) (by omega)).mono (Nat.le_refl _) (by decide)
  | ok p =>
    obtain ⟨w, k⟩ := p
    have kl := h1 w k rfl
    rw [rdE_ok]
    split
    · exact (at_shw (e := ((k : Nat) : Int)) (by omega)).mono (Nat.le_refl _) (by decide)
    · split
      · rename_i hF
        obtain ⟨wl, hw, wz⟩ := isF_parts hF
        have sz := sz_size w
        have sw : Shw 16 190000 w.pd := (FT.shwB hw).mono wl (by omega)
        exact (Shw.tup (n := 16) (z := 190000) fun x hx => by
          simp only [List.mem_cons, List.not_mem_nil, or_false] at hx
          rcases hx with rfl | rfl
          · exact Shw.str (Nat.le_trans (show (reprText "is").length ≤ 4 by decide +kernel) (by omega))
          · exact sw).mono (by decide) (by simp only [List.length_cons, List.length_nil]; omega)
      · exact (at_shw (e := -1) (by decide)).mono (Nat.le_refl _) (by decide)
theorem nbE {a b : Str} {p : Prop} (e : a = b) (h : (!decide (a = b)) = true) : p := by simp [e] at h
theorem repG_le {x : Str} {n : Int} {c N : Nat} (hx : x.length ≤ c) (hn : n.toNat ≤ N) : (repG x n).length ≤ N * c := by
  rw [repG_len]
  exact Nat.mul_le_mul hn hx
theorem sgn_o1 {x : PD} {s : Str} (h : x ∈ (sgs s).map PyData.str) : ∃ c, x = .str (o1 c) := by
  unfold sgs at h
  rw [List.map_map] at h
  obtain ⟨c, _, rfl⟩ := List.mem_map.mp h
  exact ⟨c, rfl⟩
def Txt3 (x : PD) : Prop := ∃ s : Str, x = .str s ∧ s.length ≤ 3000
def S_long : FSpec := ⟨fun args Q => ∃ (b : Nat) (dk : List PD), args = [.ls (some 0) dk] ∧ Dk (b + 10) dk ∧ ∀ (z : Str) dk', z.length ≤ 3000 → Dk b dk' → Q (.d (.str z)) [.ls (some 0) dk']⟩
abbrev N_law_long_4664 : List Str := ["deck", "many", "some", "one", "word", "last", "far", "found", "deep"]
def ir_law_long_4664 (S_law_draw_a51a : FSpec) (S_law_one_90da : FSpec) : TSt :=
  (sSeq (sPar 1 2 (fD (dBin bAdd (.e (dC (.int 1))) (.e (dFz (fCall S_law_draw_a51a (aCons (.s 0) (aCons (.e (dC (.int 590))) aNil))))))) (fLst (aCons (.e (dC (.str "x"))) (aCons (.e (dC (.str "y"))) (aCons (.e (dC (.str "7"))) (aCons (.e (dC (.str "-3"))) aNil))))))
    (sSeq (sPar 3 4 (fCall S_law_one_90da (aCons (.s 0) (aCons (.e (dVar 2)) aNil))) (fCall S_law_one_90da (aCons (.s 0) (aCons (.e (dFz (fLst (aCons (.e (dC (.str "+"))) (aCons (.e (dC (.str "-"))) (aCons (.e (dC (.str "*"))) aNil)))))) aNil))))
    (sSeq (sAsg 5 (fD (dBin bRepG (.e (dC (.str ")"))) (.e (dBin bSub (.s 1) (.e (dFz (fCall S_law_draw_a51a (aCons (.s 0) (aCons (.e (dC (.int 2))) aNil))))))))))
    (sSeq (sAsg 6 (fD (dBin bAdd (.e (dBin bAdd (.e (dFz (fCall S_law_one_90da (aCons (.s 0) (aCons (.e (dFz (fLst (aCons (.e (dC (.str ""))) (aCons (.e (dC (.str "-"))) aNil))))) aNil))))) (.e (dFz (fCall S_law_one_90da (aCons (.s 0) (aCons (.e (dFz (fLst (aCons (.e (dC (.str "1"))) (aCons (.e (dC (.str "9"))) (aCons (.e (dC (.str "0"))) aNil)))))) aNil))))))) (.e (dBin bRepG (.e (dFz (fCall S_law_one_90da (aCons (.s 0) (aCons (.e (dFz (fLst (aCons (.e (dC (.str "0"))) (aCons (.e (dC (.str "5"))) (aCons (.e (dC (.str "9"))) aNil)))))) aNil))))) (.e (dBin bMulI (.e (dC (.int 4))) (.s 1))))))))
    (sSeq (sAsg 7 (fLst (aCons (.e (dBin bAdd (.e (dBin bAdd (.e (dBin bRepG (.e (dBin bAdd (.e (dBin bAdd (.e (dC (.str "("))) (.s 3))) (.s 4))) (.s 1))) (.e (dC (.str "y"))))) (.s 5))) (aCons (.e (dBin bAdd (.e (dBin bAdd (.e (dBin bRepG (.e (dC (.str "("))) (.s 1))) (.e (dC (.str "x"))))) (.e (dBin bRepG (.e (dBin bAdd (.e (dBin bAdd (.s 4) (.s 3))) (.e (dC (.str ")"))))) (.s 1))))) (aCons (.e (dBin bAdd (.e (dBin bRepG (.e (dBin bRepG (.e (dC (.str "("))) (.e (dC (.int 3))))) (.s 1))) (.s 3))) aNil)))))
    (sSeq (sAsg 7 (fCat (.s 7) (.e (dFz (fLst (aCons (.e (dVar 6)) (aCons (.e (dBin bAdd (.e (dBin bAdd (.e (dBin bAdd (.e (dC (.str "(x"))) (.s 4))) (.s 6))) (.e (dC (.str ")"))))) (aCons (.e (dBin bAdd (.e (dBin bAdd (.e (dC (.str "(x^"))) (.s 6))) (.e (dC (.str ")"))))) (aCons (.e (dBin bAdd (.e (dBin bAdd (.e (dBin bRepG (.e (dC (.str "("))) (.s 1))) (.e (dC (.str "x"))))) (.e (dBin bRepG (.e (dC (.str "^1)"))) (.s 1))))) (aCons (.e (dBin bRepG (.e (dC (.str "-"))) (.s 1))) aNil))))))))))
    (sSeq (sAsg 8 (fD (dBin bSub (.e (dC (.int 749))) (.e (dFz (fCall S_law_draw_a51a (aCons (.s 0) (aCons (.e (dC (.int 3))) aNil))))))))
    (sRet (fCall S_law_one_90da (aCons (.s 0) (aCons (.e (dBin bAdd (.s 7) (.e (dFz (fLst (aCons (.e (dBin bRepG (.e (dC (.str "("))) (.e (dBin bSub (.e (dC (.int 3000))) (.e (dFz (fCall S_law_draw_a51a (aCons (.s 0) (aCons (.e (dC (.int 9))) aNil))))))))) (aCons (.e (dBin bAdd (.e (dBin bAdd (.e (dBin bRepG (.e (dC (.str "("))) (.s 8))) (.e (dC (.str "x"))))) (.e (dBin bRepG (.e (dC (.str "^1)"))) (.s 8))))) aNil))))))) aNil)))))))))))
theorem sp_long : ∀ args Q, S_long.sp args Q → ir_law_long_4664 S_draw S_one (endsOf args Q) (rho0 N_law_long_4664 args) := by
  rintro args Q ⟨b, dk, rfl, hd, q⟩
  have bigS : sizeLine = 16777216 := sizeLine_eq
  refine ⟨rfl, b + 9, dk, _, rfl, hd, ⟨by decide, by decide⟩, fun r dk1 r0 r1 d1 => ?_⟩
  obtain ⟨m, rfl⟩ : ∃ m : Nat, r = m := ⟨r.toNat, by omega⟩
  refine ⟨rfl, b + 8, dk1, _, rfl, d1, ⟨Nat.succ_pos _, by show 4 < 2 ^ 60; decide⟩, fun z dk2 hz d2 => ?_⟩
  obtain ⟨one, rfl, lone⟩ : ∃ s : Str, z = .str s ∧ s.length ≤ 2 := by
    simp only [List.mem_cons, List.not_mem_nil, or_false] at hz
    rcases hz with rfl | rfl | rfl | rfl <;> exact ⟨_, rfl, by decide⟩
  refine ⟨rfl, b + 7, dk2, _, rfl, d2, ⟨Nat.succ_pos _, by show 3 < 2 ^ 60; decide⟩, fun z dk3 hz d3 => ?_⟩
  obtain ⟨word, rfl, lword⟩ : ∃ s : Str, z = .str s ∧ s.length ≤ 1 := by
    simp only [List.mem_cons, List.not_mem_nil, or_false] at hz
    rcases hz with rfl | rfl | rfl <;> exact ⟨_, rfl, by decide⟩
  refine ⟨rfl, b + 6, dk3, 2, rfl, d3, ⟨by decide, by decide⟩, fun k dk4 k0 k1 d4 => ?_⟩
  have llast : (repG ")" (1 + (m : Int) - k)).length ≤ 590 * 1 := repG_le (by decide) (by omega)
  refine ⟨⟨by omega, by omega, by decide⟩, ?_⟩
  refine ⟨rfl, b + 5, dk4, _, rfl, d4, ⟨Nat.succ_pos _, by show 2 < 2 ^ 60; decide⟩, fun z dk5 hz d5 => ?_⟩
  obtain ⟨f1, rfl, lf1⟩ : ∃ s : Str, z = .str s ∧ s.length ≤ 1 := by
    simp only [List.mem_cons, List.not_mem_nil, or_false] at hz
    rcases hz with rfl | rfl <;> exact ⟨_, rfl, by decide⟩
  refine ⟨rfl, b + 4, dk5, _, rfl, d5, ⟨Nat.succ_pos _, by show 3 < 2 ^ 60; decide⟩, fun z dk6 hz d6 => ?_⟩
  obtain ⟨f2, rfl, lf2⟩ : ∃ s : Str, z = .str s ∧ s.length ≤ 1 := by
    simp only [List.mem_cons, List.not_mem_nil, or_false] at hz
    rcases hz with rfl | rfl | rfl <;> exact ⟨_, rfl, by decide⟩
  refine ⟨by omega, ?_⟩
  refine ⟨rfl, b + 3, dk6, _, rfl, d6, ⟨Nat.succ_pos _, by show 3 < 2 ^ 60; decide⟩, fun z dk7 hz d7 => ?_⟩
  obtain ⟨f3, rfl, lf3⟩ : ∃ s : Str, z = .str s ∧ s.length ≤ 1 := by
    simp only [List.mem_cons, List.not_mem_nil, or_false] at hz
    rcases hz with rfl | rfl | rfl <;> exact ⟨_, rfl, by decide⟩
  have l3 : (repG f3 (4 * (1 + (m : Int)))).length ≤ 2360 * 1 := repG_le lf3 (by omega)
  refine ⟨mulOk 40 40 (by decide) (by omega), ⟨by omega, by omega, by omega⟩, by rw [strLen_append]; omega, ?_⟩
  obtain ⟨far, efar⟩ : ∃ far, far = f1 ++ f2 ++ repG f3 (4 * (1 + (m : Int))) := ⟨_, rfl⟩
  have lfar : far.length ≤ 2362 := by rw [efar, strLen_append, strLen_append]; omega
  rw [← efar]
  have e1 : ("(" : Str).length = 1 ∧ (")" : Str).length = 1 ∧ ("x" : Str).length = 1 ∧ ("y" : Str).length = 1 ∧ ("(x" : Str).length = 2 ∧ ("(x^" : Str).length = 3 ∧ ("^1)" : Str).length = 3 ∧ ("-" : Str).length = 1 := by decide
  obtain ⟨x1, x2, x3, x4, x5, x6, x7, x8⟩ := e1
  have g1 : (repG ("(" ++ one ++ word) (1 + (m : Int))).length ≤ 590 * 4 := repG_le (by rw [strLen_append, strLen_append]; omega) (by omega)
  have g2 : (repG "(" (1 + (m : Int))).length ≤ 590 * 1 := repG_le (by omega) (by omega)
  have g3 : (repG (word ++ one ++ ")") (1 + (m : Int))).length ≤ 590 * 4 := repG_le (by rw [strLen_append, strLen_append]; omega) (by omega)
  have g4 : (repG "(" 3).length ≤ 3 * 1 := repG_le (by omega) (by decide)
  have g5 : (repG (repG "(" 3) (1 + (m : Int))).length ≤ 590 * 3 := repG_le (by omega) (by omega)
  have g6 : (repG "^1)" (1 + (m : Int))).length ≤ 590 * 3 := repG_le (by omega) (by omega)
  have g7 : (repG "-" (1 + (m : Int))).length ≤ 590 * 1 := repG_le (by omega) (by omega)
  refine ⟨by omega, by rw [strLen_append]; omega, ⟨by omega, by omega, by rw [strLen_append, strLen_append]; omega⟩, by omega, by rw [strLen_append]; omega, ?_⟩
  refine ⟨⟨by omega, by omega, by omega⟩, by omega, by omega, by rw [strLen_append]; omega, ⟨by omega, by omega, by rw [strLen_append, strLen_append]; omega⟩, by rw [strLen_append]; omega, ?_⟩
  refine ⟨⟨by decide, by decide, by omega⟩, ⟨by omega, by omega, by omega⟩, by omega, ?_⟩
  refine ⟨by omega, by rw [strLen_append]; omega, by rw [strLen_append, strLen_append]; omega, by omega, by rw [strLen_append]; omega, ⟨by omega, by omega, by omega⟩, by omega, ⟨by omega, by omega, by omega⟩, by rw [strLen_append]; omega, ⟨by omega, by omega, by omega⟩, ?_⟩
  refine ⟨by rw [bigS]; show 8 ≤ 16777216; decide, ?_⟩
  refine ⟨rfl, b + 2, dk7, 3, rfl, d7, ⟨by decide, by decide⟩, fun k2 dk8 p0 p1 d8 => ?_⟩
  refine ⟨rfl, b + 1, dk8, 9, rfl, d8, ⟨by decide, by decide⟩, fun k3 dk9 q0 q1 d9 => ?_⟩
  have h1 : (repG "(" (3000 - k3)).length ≤ 3000 * 1 := repG_le (by omega) (by omega)
  have h2 : (repG "(" (749 - k2)).length ≤ 749 * 1 := repG_le (by omega) (by omega)
  have h3 : (repG "^1)" (749 - k2)).length ≤ 749 * 3 := repG_le (by omega) (by omega)
  refine ⟨⟨by omega, by omega, by omega⟩, ⟨by omega, by omega, by omega⟩, by omega, ⟨by omega, by omega, by omega⟩, by rw [strLen_append]; omega, ?_⟩
  refine ⟨by rw [bigS]; show 10 ≤ 16777216; decide, rfl, b, dk9, _, rfl, d9, ⟨Nat.succ_pos _, by show 10 < 2 ^ 60; decide⟩, fun z dk10 hz d10 => ?_⟩
  have all : ∀ x ∈ [PyData.str (repG ("(" ++ one ++ word) (1 + (m : Int)) ++ "y" ++ repG ")" (1 + (m : Int) - k)), .str (repG "(" (1 + (m : Int)) ++ "x" ++ repG (word ++ one ++ ")") (1 + (m : Int))), .str (repG (repG "(" 3) (1 + (m : Int)) ++ one), .str far, .str ("(x" ++ word ++ far ++ ")"), .str ("(x^" ++ far ++ ")"), .str (repG "(" (1 + (m : Int)) ++ "x" ++ repG "^1)" (1 + (m : Int))), .str (repG "-" (1 + (m : Int))), .str (repG "(" (3000 - k3)), .str (repG "(" (749 - k2) ++ "x" ++ repG "^1)" (749 - k2))], Txt3 x := by
    simp only [List.forall_mem_cons]
    refine ⟨⟨_, rfl, ?_⟩, ⟨_, rfl, ?_⟩, ⟨_, rfl, ?_⟩, ⟨_, rfl, ?_⟩, ⟨_, rfl, ?_⟩, ⟨_, rfl, ?_⟩, ⟨_, rfl, ?_⟩, ⟨_, rfl, ?_⟩, ⟨_, rfl, ?_⟩, ⟨_, rfl, ?_⟩, fun x hx => by cases hx⟩
    all_goals first | (simp only [strLen_append]; omega) | omega
  obtain ⟨y, rfl, hy⟩ := all z hz
  exact q y dk10 hy d10
theorem join_len (ys : List Str) : (Txt.join "" ys).length ≤ (ys.map (·.length)).sum := by
  have h := StrLaws.join_length_le "" ys
  rw [show ("" : Str).length = 0 from rfl, Nat.mul_zero, Nat.add_zero] at h
  show (Builtin.Str.glued "" ys).length ≤ _
  rw [StrLaws.glued_eq_join]
  exact h
def S_tried : FSpec := ⟨fun args Q => ∃ (b : Nat) (dk : List PD), args = [.ls (some 0) dk] ∧ Dk (b + 420) dk ∧ ∀ (xs : List PD) dk', xs.length ≤ 20 → (∀ x ∈ xs, Txt3 x) → Dk b dk' → Q (.ls none xs) [.ls (some 0) dk']⟩
abbrev N_law_tried_1dba : List Str := ["deck", "text", "found", "again"]
def ir_law_tried_1dba (S_law_written_9dd1 : FSpec) (S_law_formula_6b2b : FSpec) (S_law_one_90da : FSpec) (S_law_draw_a51a : FSpec) (S_law_long_4664 : FSpec) : TSt :=
  (sSeq (sAsg 1 (fCall S_law_written_9dd1 (aCons (.e (dFz (fCall S_law_formula_6b2b (aCons (.s 0) (aCons (.e (dFz (fLst (aCons (.e (dC (.str "x"))) (aCons (.e (dC (.str "y"))) aNil))))) (aCons (.e (dC (.int 16))) (aCons (.e (dFz (fCall S_law_one_90da (aCons (.s 0) (aCons (.e (dFz (fLst (aCons (.e (dC (.int 2))) (aCons (.e (dC (.int 3))) (aCons (.e (dC (.int 5))) aNil)))))) aNil))))) aNil))))))) aNil)))
    (sSeq (sAsg 2 (fLc (iRg (aCons (.e (dC (.int 4))) aNil)) [3] (.nm 3) cYes (dSl (.s 1) pNone (pSome (.e (dFz (fCall S_law_draw_a51a (aCons (.s 0) (aCons (.e (dBin bAdd (.e (dBi bLen (aCons (.s 1) aNil))) (.e (dC (.int 1))))) aNil)))))))))
    (sSeq (sApp 2 (dJoin "" (.e (dFz (fLc (iRg (aCons (.e (dFz (fCall S_law_draw_a51a (aCons (.s 0) (aCons (.e (dC (.int 9))) aNil))))) aNil)) [3] (.nm 3) cYes (dFz (fCall S_law_one_90da (aCons (.s 0) (aCons (.e (dFz (fListS (aCons (.e (dC (.str "xy012()+-*^"))) aNil)))) aNil)))))))))
    (sRet (fCat (.s 2) (.e (dFz (fLst (aCons (.e (dFz (fCall S_law_long_4664 (aCons (.s 0) aNil)))) (aCons (.e (dSl (.e (dFz (fCall S_law_long_4664 (aCons (.s 0) aNil)))) pNone (pSome (.e (dBin bAdd (.e (dC (.int 1))) (.e (dFz (fCall S_law_draw_a51a (aCons (.s 0) (aCons (.e (dC (.int 3000))) aNil)))))))))) (aCons (.e (dC (.str ""))) aNil)))))))))))
theorem sp_tried : ∀ args Q, S_tried.sp args Q → ir_law_tried_1dba (S_text 24) (S_formulaB 5) S_one S_draw S_long (endsOf args Q) (rho0 N_law_tried_1dba args) := by
  rintro args Q ⟨b, dk, rfl, hd, q⟩
  have bigS : sizeLine = 16777216 := sizeLine_eq
  refine ⟨rfl, b + 400, dk, _, rfl, hd.mono (by omega), ⟨Nat.succ_pos _, by show 3 < 2 ^ 60; decide⟩, fun z dk2 hz d2 => ?_⟩
  have all : ∀ x ∈ [PyData.int 2, .int 3, .int 5], ∃ k : Nat, x = .int k ∧ 1 ≤ k ∧ k ≤ 5 := by
    simp only [List.forall_mem_cons]
    exact ⟨⟨2, rfl, by decide, by decide⟩, ⟨3, rfl, by decide, by decide⟩, ⟨5, rfl, by decide, by decide⟩, fun x hx => by cases hx⟩
  obtain ⟨k, rfl, k1, k2⟩ := all z hz
  refine ⟨rfl, b + 50, dk2, _, true, 16, k, rfl, d2.mono (by show b + 50 + 349 ≤ _; omega), lets_xy, by decide, by decide, k1, k2, fun f dk3 hfd d3 => ?_⟩
  have fl : f.lev ≤ 5 := Nat.le_trans hfd.1 k2
  have fwf : f.wf := FT.wf.of hfd.2.2.1 hfd.2.1
  have fz := f.sz_le (m := 2000)
  have p4 : 2 ^ f.lev ≤ 2 ^ 5 := Nat.pow_le_pow_right (by decide) fl
  have fw2 : (2000 + 40) * 2 ^ f.lev ≤ (2000 + 40) * 2 ^ 5 := Nat.mul_le_mul_left _ p4
  have fw : f.wr 24 := ⟨by omega, le_more (by decide) hfd.2.2.1.le, by have := hfd.2.1; omega, by omega⟩
  refine ⟨rfl, f, rfl, fw, ?_⟩
  have p3 : 2 ^ (f.lev - 1) ≤ 2 ^ 4 := Nat.pow_le_pow_right (by decide) (by omega)
  have tl := len_text fwf
  rw [← cl_text, cl_len] at tl
  generalize textF f = z at tl ⊢
  have zl : z.length ≤ 701 := by omega
  have zs : z.length ≤ sizeLine := by omega
  have cl3 : ∀ (y : Str) (lo hi : Option Int), y.length ≤ 3000 → Txt3 (.str (cutS y lo hi)) := fun y lo hi h => ⟨_, rfl, Nat.le_trans (cutS_length y lo hi) h⟩
  refine ⟨by decide, ⟨rfl, rfl⟩, fun i acc ρ => ∃ dk, (∀ x ∈ acc, Txt3 x) ∧ acc.length = i ∧ ρ = [some (.ls (some 0) dk), some (.d (.str z)), none, none] ∧ Dk (b + 46 + (4 - i)) dk, ⟨dk3, fun x hx => (by cases hx), rfl, rfl, d3⟩, fun _ _ _ _ => trivial, ?_, ?_⟩
  · rintro i x acc ρ hx ⟨dk, h1, h2, rfl, hd⟩
    obtain ⟨rfl, hi⟩ := rngD_get hx
    have hi : i < 4 := hi
    refine ⟨fun _ => ?_, nofun⟩
    refine ⟨zs, rfl, b + 46 + (4 - (i + 1)), dk, _, rfl, hd.mono (by omega), ⟨by omega, Nat.lt_trans (log2_lt (k := 20) (by omega) (by decide)) (by decide)⟩, fun r dk' r0 r1 d' => ?_⟩
    refine ⟨zs, by rw [h2, bigS]; omega, dk', fun x hx => ?_, by rw [List.length_append, h2]; rfl, rfl, d'⟩
    rcases List.mem_append.mp hx with hx | hx
    · exact h1 x hx
    · rw [List.mem_singleton.mp hx]; exact cl3 z _ _ (by omega)
  rintro acc ρ ⟨dk4, h1, h2, rfl, d4⟩
  have el : (rngD 0 ((4 : Int)).toNat).length = 4 := rngD_len
  have h2 : acc.length = 4 := by rw [h2]; exact el
  have d4 : Dk (b + 46) dk4 := d4.mono (by omega)
  refine ⟨rfl, b + 45, dk4, 9, rfl, d4, ⟨by decide, by decide⟩, fun n dk5 n0 n1 d5 => ?_⟩
  refine ⟨by omega, ⟨rfl, rfl⟩, fun i acc2 ρ => ∃ dk, (∃ ys : List Str, acc2 = ys.map .str ∧ ys.length = i ∧ (ys.map (·.length)).sum = i) ∧ ρ = [some (.ls (some 0) dk), some (.d (.str z)), some (.ls none acc), none] ∧ Dk (b + 36 + (9 - i)) dk, ⟨dk5, ⟨[], rfl, rfl, rfl⟩, rfl, d5⟩, fun _ _ _ _ => trivial, ?_, ?_⟩
  · rintro i x acc2 ρ hx ⟨dk, ⟨ys, rfl, y1, y2⟩, rfl, hd⟩
    obtain ⟨rfl, hi⟩ := rngD_get hx
    have hi : i < 9 := by omega
    refine ⟨fun _ => ?_, nofun⟩
    refine ⟨by rw [bigS]; decide, rfl, b + 36 + (9 - (i + 1)), dk, _, rfl, hd.mono (by omega), ⟨by decide +kernel, by decide +kernel⟩, fun x dk' hx d' => ?_⟩
    obtain ⟨c, rfl⟩ := sgn_o1 hx
    refine ⟨by rw [List.length_map, y1, bigS]; omega, dk', ⟨ys ++ [o1 c], by rw [List.map_append]; rfl, by rw [List.length_append, y1]; rfl, ?_⟩, rfl, d'⟩
    rw [List.map_append, List.sum_append, y2]; rfl
  rintro acc2 ρ ⟨dk6, ⟨ys, rfl, y1, y2⟩, rfl, d6⟩
  have el2 : (rngD 0 n.toNat).length = n.toNat := rngD_len
  have y1 : ys.length = n.toNat := by rw [y1]; exact el2
  have y2 : (ys.map (·.length)).sum = n.toNat := by rw [y2]; exact el2
  have d6 : Dk (b + 36) dk6 := d6.mono (by omega)
  have jl := join_len ys
  have e0 : ("" : Str).length = 0 := rfl
  refine ⟨ys, rfl, by rw [y2, e0]; omega, by rw [h2, bigS]; omega, ?_⟩
  refine ⟨rfl, b + 26, dk6, rfl, d6, fun l1 dk7 hl1 d7 => ?_⟩
  refine ⟨rfl, b + 1, dk7, rfl, d7.mono (by omega), fun l2 dk8 hl2 d8 => ?_⟩
  refine ⟨rfl, b, dk8, 3000, rfl, d8, ⟨by decide, by decide⟩, fun r dk9 r0 r1 d9 => ?_⟩
  refine ⟨by rw [bigS]; omega, by rw [List.length_append, h2, bigS]; show 4 + 1 + 3 ≤ 16777216; decide, ?_⟩
  have fin := q (acc ++ [PyData.str (Txt.join "" ys)] ++ [.str l1, .str (cutS l2 none (some (1 + r))), .str ""]) dk9 ?_ ?_ d9
  · exact .inl fin
  · rw [List.length_append, List.length_append, h2]; show 4 + 1 + 3 ≤ 20; decide
  · intro x hx
    rcases List.mem_append.mp hx with hx | hx
    · rcases List.mem_append.mp hx with hx | hx
      · exact h1 x hx
      · rw [List.mem_singleton.mp hx]
        exact ⟨_, rfl, by rw [y2] at jl; omega⟩
    · simp only [List.mem_cons, List.not_mem_nil, or_false] at hx
      rcases hx with rfl | rfl | rfl
      · exact ⟨_, rfl, hl1⟩
      · exact cl3 l2 _ _ hl2
      · exact ⟨"", rfl, by decide⟩
abbrev N_law : List Str := ["script", "deck", "turn", "text", "due"]
def ir_law (S_law_deck_91e6 : FSpec) (S_law_tried_1dba : FSpec) (S_law_due_08c8 : FSpec) (S_law_asked_b98b_e : FSpec) : TSt :=
  (sSeq (sAsg 1 (fCall S_law_deck_91e6 (aCons (.s 0) aNil)))
    (sSeq (sFor (iRg (aCons (.e (dC (.int 5))) aNil)) (.nm 2) (sFor (iSeq (dFz (fCall S_law_tried_1dba (aCons (.s 1) aNil)))) (.nm 3) (sSeq (sAsg 4 (fCall S_law_due_08c8 (aCons (.e (dVar 3)) aNil)))
    (sIf (tVal (dBin cNe (.e (dBi bRepr (aCons (.e (dFz (fCall S_law_asked_b98b_e (aCons (.e (dVar 3)) aNil)))) aNil))) (.e (dBi bRepr (aCons (.s 4) aNil))))) (sRet (fD (dC (.bool false)))) sNext))))
    (sRet (fD (dC (.bool true))))))
set_option maxHeartbeats 4000000 in
theorem sp_law : ∀ args Q, lawS.sp args Q → ir_law S_deck S_tried S_due S_asked (endsOf args Q) (rho0 N_law args) := by
  rintro args Q ⟨ns, rfl, hl, q⟩
  refine ⟨rfl, ns, rfl, hl, fun dk hdk => ?_⟩
  refine ⟨by decide, _, rfl, fun i ρ => ∃ (dk : List PD) (s2 s3 s4 : Option Lc), ρ = [some (.sc (ns.map .int)), some (.ls none dk), s2, s3, s4] ∧ Dk ((5 - i) * 420) dk, ⟨dk, none, none, none, rfl, hdk.mono (by decide)⟩, ?_, ?_⟩
  · rintro i x ρ hx ⟨dk, s2, s3, s4, rfl, hd⟩
    obtain ⟨rfl, hi⟩ := rngD_get hx
    have hi : i < 5 := hi
    have eb : (5 - i) * 420 = (5 - (i + 1)) * 420 + 420 := by omega
    rw [eb] at hd
    obtain ⟨B, hB⟩ : ∃ B, B = (5 - (i + 1)) * 420 := ⟨_, rfl⟩
    rw [← hB] at hd
    refine ⟨rfl, B, dk, rfl, hd, fun xs dk2 hxl hxs d2 => ?_⟩
    refine ⟨_, rfl, fun j ρ => ∃ (s3 s4 : Option Lc), ρ = [some (.sc (ns.map .int)), some (.ls none dk2), some (.d (.int (0 + (i : Nat)))), s3, s4], ⟨s3, s4, rfl⟩, ?_, ?_⟩
    · rintro j x ρ hx ⟨s3, s4, rfl⟩
      have hx : xs[j]? = some x := hx
      obtain ⟨z, rfl, hz⟩ := hxs x (List.mem_of_getElem? hx)
      have zl := cl_len z
      have hc : cnt (cl z) ≤ z.length := by rw [← cl_len]; exact List.count_le_length
      obtain ⟨r, hR, ok, er⟩ := total0 (t := cl z) (by omega)
      have a1 : z.length ≤ 1000000 := by omega
      have a2 : D640 (cl z) := Run.short (by omega)
      have a4 : ∀ w k, r = .ok (w, k) → w.lev ≤ 4000 ∧ (hf 16 [w] 0 = true → w.e < 2 ^ 64) := fun w k e => by
        obtain ⟨h1, _, _⟩ := ok w k e
        refine ⟨by omega, fun h => ?_⟩
        obtain ⟨h2, h3, _⟩ := (hf_one w).mp h
        have := e_lev h3
        have p : 16 ^ (w.lev - 1) ≤ 16 ^ 15 := Nat.pow_le_pow_right (by decide) (by omega)
        have : (16 : Nat) ^ 15 < 2 ^ 64 := by decide
        omega
      have a5 : ∀ w k, r = .ok (w, k) → w.lev ≤ 4000 ∧ w.size ≤ 100000 ∧ k ≤ z.length := fun w k e => by
        obtain ⟨h1, h2, h3⟩ := ok w k e
        exact ⟨by omega, by omega, by omega⟩
      have s0 : Shw 20 400000 (askD (rdE z.length r)) := asked_shw (fun w k e => by obtain ⟨h1, h2, _⟩ := ok w k e; omega) (fun e he => by have := er e he; omega)
      refine ⟨rfl, z, r, rfl, by omega, hR, a5, ?_⟩
      refine ⟨rfl, z, r, rfl, a1, a2, hR, a4, s0.ok, s0.ok, fun h => nbE rfl h, fun _ => ⟨_, _, rfl⟩⟩
    · rintro ρ ⟨s3, s4, rfl⟩
      exact ⟨dk2, _, _, _, rfl, by rw [← hB]; exact d2⟩
  · rintro ρ ⟨dk, s2, s3, s4, rfl, hd⟩
    exact q
end DL
namespace DL
open PySem L2 PyProof.Rows StX
def top (i : Nat) : Stmt := PySem.Challenge.pw_hourforms_k63_texts_cut_long_and_deep.main.body.getD i (.Pass ⟨0, 0, 0, 0⟩)
abbrev st_x_BadText : Stmt := inClass (top 2) 0
theorem sc_x_BadText : FnScope ["self", "at"] ["self", "at"] (defScope st_x_BadText) := ⟨rfl, rfl, rfl, by decide +kernel, rfl, by decide +kernel, by decide +kernel⟩
theorem mk_x_BadText {P : Program} {w : World} {K : PySem.W.Frag} {mg : Str → Option Value} {base : Heap} {fI C HC : Addr} {fd : FuncData} (Fn : Fun K "__init__" "BadText.__init__" st_x_BadText fI fd) (mH : mg "HourError" = some (.ref HC)) (hc : HeC K HC) (T : OexC K C) (no_at : PySem.W.findIn K (.ref C) "at" = some none)
    (iC : PySem.W.findIn K (.ref C) "__init__" = some (some (.ref fI))) (tI : PySem.W.typeIn K (.ref fI) = some (.type "function")) (gm : mg "BadText" = some (.ref C)) (bi : Binds K fd ["self", "at"] []) : ExMk P w K mg base 1 "BadText" C ["at"] :=
  ex_ok1 (k := 0) (m := "BadText") Fn sc_x_BadText T no_at iC tI gm (fun cdv A outer s H E hr => pss_cons (ps_expr (pe_hinit rfl mH hc (pa_cons (pv 0) (pa_cons pe_str pa_nil)))) (pss_one (ps_ost (pv 0) (pv 1)))) bi
abbrev st_law_deck_91e6 : Stmt := top 30
theorem sc_law_deck_91e6 : FnScope N_law_deck_91e6 ["script"] (defScope st_law_deck_91e6) := ⟨rfl, rfl, rfl, by decide +kernel, rfl, by decide +kernel, by decide +kernel⟩
theorem cal_law_deck_91e6 {P : Program} {w : World} {K : PySem.W.Frag} {mg : Str → Option Value} {base : Heap} {k : Nat} (hnd : base.NoDigits) (D : Dn K mg "_law_deck" st_law_deck_91e6 ["script"]) (b_list : mg "list" = none) {S : FSpec}
    (len : ∀ args Q, S.sp args Q → args.length = 1) (hsp : ∀ args Q, S.sp args Q → ir_law_deck_91e6 (endsOf args Q) (rho0 N_law_deck_91e6 args)) : Cal P w K mg base (k + 1) "_law_deck" ["script"] S := by
  have sc := sc_law_deck_91e6
  exact def_cal D sc len (fun f cdv A outer s H E hr hgd =>
    (LSs.one (LS.ret (LF.lst (LA.cons (LO.ofD (LD.ofF (LF.list rfl b_list (LA.cons (LO.ofD (LD.slS 0 (pv 0) LP.none (LP.some (LO.ofD LD.int)))) LA.nil)))) (LA.cons (LO.ofD LD.int) (LA.cons (LO.ofD LD.int) (LA.cons (LO.ofD LD.int) LA.nil)))))))) hsp
abbrev st_law_written_9dd1 : Stmt := top 35
theorem sc_law_written_9dd1 : FnScope N_law_written_9dd1 ["formula"] (defScope st_law_written_9dd1) := ⟨rfl, rfl, rfl, by decide +kernel, rfl, by decide +kernel, by decide +kernel⟩
theorem cal_law_written_9dd1 {P : Program} {w : World} {K : PySem.W.Frag} {mg : Str → Option Value} {base : Heap} {k : Nat} (hnd : base.NoDigits) (D : Dn K mg "_law_written" st_law_written_9dd1 ["formula"]) {S_law_written_9dd1 : FSpec} (c_law_written_9dd1 : Cal P w K mg base k "_law_written" ["formula"] S_law_written_9dd1) (b_isinstance : mg "isinstance" = none) (b_tuple : mg "tuple" = none) (b_str : mg "str" = none) {S : FSpec}
    (len : ∀ args Q, S.sp args Q → args.length = 1) (hsp : ∀ args Q, S.sp args Q → ir_law_written_9dd1 S_law_written_9dd1 (endsOf args Q) (rho0 N_law_written_9dd1 args)) : Cal P w K mg base (k + 1) "_law_written" ["formula"] S := by
  have sc := sc_law_written_9dd1
  exact def_cal D sc len (fun f cdv A outer s H E hr hgd =>
    (LSs.cons (LS.ite (LT.not (LT.val (LD.isi "tuple" (by simp) rfl b_isinstance rfl b_tuple (by decide +kernel) (LO.s 0 (pv 0))))) (LSs.one (LS.ret (LF.ofD (LD.bt (call_strW hnd) ok_strW rfl b_str (by decide +kernel) (LA.cons (LO.s 0 (pv 0)) LA.nil))))) LSs.nil)
    (LSs.cons (LS.asg (i := 1) sc.nd rfl (by first | exact .inl rfl | exact .inr rfl) (LF.ofD (LD.ite (LT.cmp (op_eqU hr.units) ok_eq (LO.ofD (LD.ix (LO.s 0 (pv 0)) (LO.ofD LD.int) (fun _ _ => rfl))) (LO.ofD LD.str) (nomark _)) (LD.bt (call_strW hnd) ok_strW rfl b_str (by decide +kernel) (LA.cons (LO.ofD (LD.ix (LO.s 0 (pv 0)) (LO.ofD LD.int) (fun _ _ => rfl))) LA.nil)) (LD.ofF (LF.cal c_law_written_9dd1 hr hgd rfl (LA.cons (LO.ofD (LD.ix (LO.s 0 (pv 0)) (LO.ofD LD.int) (fun _ _ => rfl))) LA.nil))))))
    (LSs.one (LS.ret (LF.ofD (LD.bin op_addD ok_add (LO.ofD (LD.bin op_addD ok_add (LO.ofD (LD.bin op_addD ok_add (LO.ofD (LD.bin op_addD ok_add (LO.ofD LD.str) (LO.ofD (LD.ofF (LF.cal c_law_written_9dd1 hr hgd rfl (LA.cons (LO.ofD (LD.ix (LO.s 0 (pv 0)) (LO.ofD LD.int) (fun _ _ => rfl))) LA.nil)))))) (LO.ofD (LD.ixF (Nat.lt_of_le_of_lt (Nat.add_le_add_left (by decide : 1 ≤ 64) _) hr.units) (LF.dict (LPr.cs LD.str (LPr.cs LD.str (LPr.cs LD.str (LPr.cs LD.str LPr.nil)))) (by decide +kernel) rfl (by simp) (by decide +kernel) (by decide +kernel)) (LO.ofD (LD.ix (LO.s 0 (pv 0)) (LO.ofD LD.int) (fun _ _ => rfl))) (fun _ _ => rfl))))) (LO.s 1 (pv 1)))) (LO.ofD LD.str)))))))) hsp
abbrev st_law_draw_a51a : Stmt := top 31
theorem sc_law_draw_a51a : FnScope N_law_draw_a51a ["deck", "many"] (defScope st_law_draw_a51a) := ⟨rfl, rfl, rfl, by decide +kernel, rfl, by decide +kernel, by decide +kernel⟩
theorem cal_law_draw_a51a {P : Program} {w : World} {K : PySem.W.Frag} {mg : Str → Option Value} {base : Heap} {k : Nat} (hnd : base.NoDigits) (D : Dn K mg "_law_draw" st_law_draw_a51a ["deck", "many"]) (b_int : mg "int" = none) (b_len : mg "len" = none) (b_abs : mg "abs" = none) {S : FSpec}
    (len : ∀ args Q, S.sp args Q → args.length = 2) (hsp : ∀ args Q, S.sp args Q → ir_law_draw_a51a (endsOf args Q) (rho0 N_law_draw_a51a args)) : Cal P w K mg base (k + 1) "_law_draw" ["deck", "many"] S := by
  have sc := sc_law_draw_a51a
  exact def_cal D sc len (fun f cdv A outer s H E hr hgd =>
    (LSs.cons (LS.setL (LD.bin op_addD ok_add (LO.ofD (LD.ix (LO.s 0 (pv 0)) (LO.ofD LD.int) (fun _ _ => rfl))) (LO.ofD LD.int)) (pg_sub (pv 0) (pO (LO.ofD LD.int)) set_list))
    (LSs.cons (LS.ite (LT.cmp op_gt (ok_cI _) (LO.ofD (LD.ix (LO.s 0 (pv 0)) (LO.ofD LD.int) (fun _ _ => rfl))) (LO.ofD LD.int) (nomark _)) (LSs.cons (LS.asg (i := 2) sc.nd rfl (by first | exact .inl rfl | exact .inr rfl) (LF.ofD (LD.bin op_mod ok_mod (LO.ofD (LD.bt call_int1 ok_int rfl b_int (by decide +kernel) (LA.cons (LO.ofD (LD.ix (LO.s 0 (pv 0)) (LO.ofD LD.int) (fun _ _ => rfl))) LA.nil))) (LO.s 1 (pv 1)))))
    (LSs.cons (LS.setL (LD.bin op_fdivW ok_fdiv (LO.ofD (LD.ix (LO.s 0 (pv 0)) (LO.ofD LD.int) (fun _ _ => rfl))) (LO.s 1 (pv 1))) (pg_sub (pv 0) (pO (LO.ofD LD.int)) set_list))
    (LSs.one (LS.retV 2 (pv 2))))) LSs.nil)
    (LSs.cons (LS.asg (i := 3) sc.nd rfl (by first | exact .inl rfl | exact .inr rfl) (LF.ofD LD.int))
    (LSs.cons (LS.ite (LT.cmp (op_neU hr.units) ok_ne (LO.ofD (LD.ix (LO.s 0 (pv 0)) (LO.ofD LD.int) (fun _ _ => rfl))) (LO.ofD (LD.ofF (LF.lst LA.nil))) (nomark _)) (LSs.one (LS.asg (i := 3) sc.nd rfl (by first | exact .inl rfl | exact .inr rfl) (LF.ofD (LD.ix (LO.ofD (LD.ix (LO.s 0 (pv 0)) (LO.ofD LD.int) (fun _ _ => rfl))) (LO.ofD (LD.bin op_mod ok_mod (LO.ofD (LD.bt call_int1 ok_int rfl b_int (by decide +kernel) (LA.cons (LO.ofD (LD.ix (LO.s 0 (pv 0)) (LO.ofD LD.int) (fun _ _ => rfl))) LA.nil))) (LO.ofD (LD.bi call_lenU ok_len rfl b_len (by decide +kernel) (LA.cons (LO.ofD (LD.ix (LO.s 0 (pv 0)) (LO.ofD LD.int) (fun _ _ => rfl))) LA.nil))))) (fun _ _ => rfl))))) LSs.nil)
    (LSs.cons (LS.setL (LD.bin op_addD ok_add (LO.ofD (LD.ix (LO.s 0 (pv 0)) (LO.ofD LD.int) (fun _ _ => rfl))) (LO.ofD LD.int)) (pg_sub (pv 0) (pO (LO.ofD LD.int)) set_list))
    (LSs.cons (LS.ite (LT.w (LW.and (LT.cmp op_ge (ok_cI _) (LO.ofD (LD.bi call_abs ok_abs rfl b_abs (by decide +kernel) (LA.cons (LO.s 3 (pv 3)) LA.nil))) (LO.ofD (LD.bin op_powW ok_pow (LO.ofD LD.int) (LO.ofD LD.int))) (nomark _)) (LW.and1 (LT.cmp op_le (ok_cI _) (LO.ofD (LD.ix (LO.s 0 (pv 0)) (LO.ofD LD.int) (fun _ _ => rfl))) (LO.ofD (LD.bi call_lenU ok_len rfl b_len (by decide +kernel) (LA.cons (LO.ofD (LD.ix (LO.s 0 (pv 0)) (LO.ofD LD.int) (fun _ _ => rfl))) LA.nil))) (nomark _))))) (LSs.cons (LS.setL (LD.bin op_fdivW ok_fdiv (LO.ofD (LD.bi call_abs ok_abs rfl b_abs (by decide +kernel) (LA.cons (LO.s 3 (pv 3)) LA.nil))) (LO.s 1 (pv 1))) (pg_sub (pv 0) (pO (LO.ofD LD.int)) set_list))
    (LSs.one (LS.ret (LF.ofD (LD.bin op_mod ok_mod (LO.ofD (LD.bt call_int1 ok_int rfl b_int (by decide +kernel) (LA.cons (LO.ofD (LD.bi call_abs ok_abs rfl b_abs (by decide +kernel) (LA.cons (LO.s 3 (pv 3)) LA.nil))) LA.nil))) (LO.s 1 (pv 1))))))) LSs.nil)
    (LSs.cons (LS.asg (i := 4) sc.nd rfl (by first | exact .inl rfl | exact .inr rfl) (LF.ofD (LD.bin op_mod ok_mod (LO.ofD (LD.bin op_powW ok_pow (LO.ofD (LD.bt call_int1 ok_int rfl b_int (by decide +kernel) (LA.cons (LO.ofD (LD.bin op_addD ok_add (LO.ofD (LD.bin op_mod ok_mod (LO.ofD (LD.bt call_int1 ok_int rfl b_int (by decide +kernel) (LA.cons (LO.s 3 (pv 3)) LA.nil))) (LO.ofD LD.int))) (LO.ofD (LD.bin op_mulI ok_mul (LO.ofD LD.int) (LO.ofD (LD.ix (LO.s 0 (pv 0)) (LO.ofD LD.int) (fun _ _ => rfl))))))) LA.nil))) (LO.ofD LD.int))) (LO.ofD LD.int))))
    (LSs.cons (LS.asg (i := 4) sc.nd rfl (by first | exact .inl rfl | exact .inr rfl) (LF.ofD (LD.bin op_mod ok_mod (LO.ofD (LD.bin op_powW ok_pow (LO.ofD (LD.bt call_int1 ok_int rfl b_int (by decide +kernel) (LA.cons (LO.ofD (LD.bin op_addD ok_add (LO.ofD (LD.bin op_mulI ok_mul (LO.s 4 (pv 4)) (LO.ofD (LD.bin op_addD ok_add (LO.ofD (LD.bin op_mulI ok_mul (LO.ofD LD.int) (LO.ofD (LD.ix (LO.s 0 (pv 0)) (LO.ofD LD.int) (fun _ _ => rfl))))) (LO.ofD LD.int))))) (LO.ofD LD.int))) LA.nil))) (LO.ofD LD.int))) (LO.ofD LD.int))))
    (LSs.one (LS.ret (LF.ofD (LD.bin op_mod ok_mod (LO.ofD (LD.bin op_fdivW ok_fdiv (LO.s 4 (pv 4)) (LO.ofD LD.int))) (LO.s 1 (pv 1))))))))))))))) hsp
abbrev st_law_one_90da : Stmt := top 32
theorem sc_law_one_90da : FnScope N_law_one_90da ["deck", "items"] (defScope st_law_one_90da) := ⟨rfl, rfl, rfl, by decide +kernel, rfl, by decide +kernel, by decide +kernel⟩
theorem cal_law_one_90da {P : Program} {w : World} {K : PySem.W.Frag} {mg : Str → Option Value} {base : Heap} {k : Nat} (hnd : base.NoDigits) (D : Dn K mg "_law_one" st_law_one_90da ["deck", "items"]) {S_law_draw_a51a : FSpec} (c_law_draw_a51a : Cal P w K mg base k "_law_draw" ["deck", "many"] S_law_draw_a51a) (b_len : mg "len" = none) {S : FSpec}
    (len : ∀ args Q, S.sp args Q → args.length = 2) (hsp : ∀ args Q, S.sp args Q → ir_law_one_90da S_law_draw_a51a (endsOf args Q) (rho0 N_law_one_90da args)) : Cal P w K mg base (k + 1) "_law_one" ["deck", "items"] S := by
  have sc := sc_law_one_90da
  exact def_cal D sc len (fun f cdv A outer s H E hr hgd =>
    (LSs.one (LS.ret (LF.ofD (LD.ix (LO.s 1 (pv 1)) (LO.ofD (LD.ofF (LF.cal c_law_draw_a51a hr hgd rfl (LA.cons (LO.s 0 (pv 0)) (LA.cons (LO.ofD (LD.bi call_lenU ok_len rfl b_len (by decide +kernel) (LA.cons (LO.s 1 (pv 1)) LA.nil))) LA.nil))))) (fun _ _ => rfl)))))) hsp
abbrev st_law_leaf_a91b : Stmt := top 33
theorem sc_law_leaf_a91b : FnScope N_law_leaf_a91b ["deck", "letters"] (defScope st_law_leaf_a91b) := ⟨rfl, rfl, rfl, by decide +kernel, rfl, by decide +kernel, by decide +kernel⟩
theorem cal_law_leaf_a91b {P : Program} {w : World} {K : PySem.W.Frag} {mg : Str → Option Value} {base : Heap} {k : Nat} (hnd : base.NoDigits) (D : Dn K mg "_law_leaf" st_law_leaf_a91b ["deck", "letters"]) {S_law_draw_a51a : FSpec} (c_law_draw_a51a : Cal P w K mg base k "_law_draw" ["deck", "many"] S_law_draw_a51a) {S_law_one_90da : FSpec} (c_law_one_90da : Cal P w K mg base k "_law_one" ["deck", "items"] S_law_one_90da) {S : FSpec}
    (len : ∀ args Q, S.sp args Q → args.length = 2) (hsp : ∀ args Q, S.sp args Q → ir_law_leaf_a91b S_law_draw_a51a S_law_one_90da (endsOf args Q) (rho0 N_law_leaf_a91b args)) : Cal P w K mg base (k + 1) "_law_leaf" ["deck", "letters"] S := by
  have sc := sc_law_leaf_a91b
  exact def_cal D sc len (fun f cdv A outer s H E hr hgd =>
    (LSs.cons (LS.asg (i := 2) sc.nd rfl (by first | exact .inl rfl | exact .inr rfl) (LF.ofD (LD.bin op_addD ok_add (LO.ofD (LD.bin op_mulI ok_mul (LO.ofD (LD.ofF (LF.cal c_law_draw_a51a hr hgd rfl (LA.cons (LO.s 0 (pv 0)) (LA.cons (LO.ofD (LD.bin op_powW ok_pow (LO.ofD LD.int) (LO.ofD LD.int))) LA.nil))))) (LO.ofD (LD.bin op_powW ok_pow (LO.ofD LD.int) (LO.ofD LD.int))))) (LO.ofD (LD.ofF (LF.cal c_law_draw_a51a hr hgd rfl (LA.cons (LO.s 0 (pv 0)) (LA.cons (LO.ofD (LD.bin op_powW ok_pow (LO.ofD LD.int) (LO.ofD LD.int))) LA.nil))))))))
    (LSs.cons (LS.asg (i := 3) sc.nd rfl (by first | exact .inl rfl | exact .inr rfl) (LF.cal c_law_one_90da hr hgd rfl (LA.cons (LO.s 0 (pv 0)) (LA.cons (LO.ofD (LD.ofF (LF.lst (LA.cons (LO.ofD (LD.var 2 (pv 2))) (LA.cons (LO.ofD (LD.neg (LO.s 2 (pv 2)))) (LA.cons (LO.ofD (LD.bin op_sub ok_sub (LO.ofD (LD.bin op_powW ok_pow (LO.ofD LD.int) (LO.ofD LD.int))) (LO.ofD LD.int))) (LA.cons (LO.ofD (LD.bin op_sub ok_sub (LO.ofD LD.int) (LO.ofD (LD.bin op_powW ok_pow (LO.ofD LD.int) (LO.ofD LD.int))))) LA.nil))))))) LA.nil))))
    (LSs.cons (LS.asg (i := 4) sc.nd rfl (by first | exact .inl rfl | exact .inr rfl) (LF.lst (LA.cons (LO.ofD LD.int) (LA.cons (LO.ofD LD.int) (LA.cons (LO.ofD (LD.neg (LO.ofD LD.int))) (LA.cons (LO.ofD LD.int) (LA.cons (LO.ofD LD.int) (LA.cons (LO.ofD (LD.neg (LO.ofD LD.int))) (LA.cons (LO.ofD LD.int) (LA.cons (LO.ofD LD.int) (LA.cons (LO.ofD (LD.bin op_sub ok_sub (LO.ofD (LD.ofF (LF.cal c_law_draw_a51a hr hgd rfl (LA.cons (LO.s 0 (pv 0)) (LA.cons (LO.ofD LD.int) LA.nil))))) (LO.ofD LD.int))) (LA.cons (LO.ofD (LD.var 3 (pv 3))) LA.nil))))))))))))
    (LSs.one (LS.ret (LF.cal c_law_one_90da hr hgd rfl (LA.cons (LO.s 0 (pv 0)) (LA.cons (LO.ofD (LD.ofF (LF.lst (LA.cons (LO.ofD (LD.ofF (LF.cal c_law_one_90da hr hgd rfl (LA.cons (LO.s 0 (pv 0)) (LA.cons (LO.ofD (LD.var 4 (pv 4))) LA.nil))))) (LA.cons (LO.ofD (LD.ofF (LF.cal c_law_one_90da hr hgd rfl (LA.cons (LO.s 0 (pv 0)) (LA.cons (LO.ofD (LD.var 1 (pv 1))) LA.nil))))) (LA.cons (LO.ofD (LD.ofF (LF.cal c_law_one_90da hr hgd rfl (LA.cons (LO.s 0 (pv 0)) (LA.cons (LO.ofD (LD.var 1 (pv 1))) LA.nil))))) LA.nil)))))) LA.nil))))))))) hsp
abbrev st_law_formula_6b2b : Stmt := top 34
theorem sc_law_formula_6b2b : FnScope N_law_formula_6b2b ["deck", "letters", "room", "deep"] (defScope st_law_formula_6b2b) := ⟨rfl, rfl, rfl, by decide +kernel, rfl, by decide +kernel, by decide +kernel⟩
theorem cal_law_formula_6b2b {P : Program} {w : World} {K : PySem.W.Frag} {mg : Str → Option Value} {base : Heap} {k : Nat} (hnd : base.NoDigits) (D : Dn K mg "_law_formula" st_law_formula_6b2b ["deck", "letters", "room", "deep"]) {S_law_draw_a51a : FSpec} (c_law_draw_a51a : Cal P w K mg base k "_law_draw" ["deck", "many"] S_law_draw_a51a) {S_law_leaf_a91b : FSpec} (c_law_leaf_a91b : Cal P w K mg base k "_law_leaf" ["deck", "letters"] S_law_leaf_a91b) {S_law_formula_6b2b : FSpec} (c_law_formula_6b2b : Cal P w K mg base k "_law_formula" ["deck", "letters", "room", "deep"] S_law_formula_6b2b) (b_max : mg "max" = none) {S : FSpec}
    (len : ∀ args Q, S.sp args Q → args.length = 4) (hsp : ∀ args Q, S.sp args Q → ir_law_formula_6b2b S_law_draw_a51a S_law_leaf_a91b S_law_formula_6b2b (endsOf args Q) (rho0 N_law_formula_6b2b args)) : Cal P w K mg base (k + 1) "_law_formula" ["deck", "letters", "room", "deep"] S := by
  have sc := sc_law_formula_6b2b
  exact def_cal D sc len (fun f cdv A outer s H E hr hgd =>
    (LSs.cons (LS.asg (i := 4) sc.nd rfl (by first | exact .inl rfl | exact .inr rfl) (LF.cal c_law_draw_a51a hr hgd rfl (LA.cons (LO.s 0 (pv 0)) (LA.cons (LO.ofD LD.int) LA.nil))))
    (LSs.cons (LS.ite (LT.w (LW.or (LT.cmp op_lt (ok_cI _) (LO.s 3 (pv 3)) (LO.ofD LD.int) (nomark _)) (LW.or (LT.cmp op_lt (ok_cI _) (LO.s 4 (pv 4)) (LO.ofD LD.int) (nomark _)) (LW.or1 (LT.w (LW.and (LT.cmp op_lt (ok_cI _) (LO.s 2 (pv 2)) (LO.ofD LD.int) (nomark _)) (LW.and1 (LT.cmp op_in_seq (ok_in false) (LO.s 4 (pv 4)) (LO.ofD (LD.ofF (LF.lst (LA.cons (LO.ofD LD.int) (LA.cons (LO.ofD LD.int) (LA.cons (LO.ofD LD.int) LA.nil)))))) rfl)))))))) (LSs.one (LS.ret (LF.cal c_law_leaf_a91b hr hgd rfl (LA.cons (LO.s 0 (pv 0)) (LA.cons (LO.ofD (LD.var 1 (pv 1))) LA.nil))))) LSs.nil)
    (LSs.cons (LS.ite (LT.cmp op_lt (ok_cI _) (LO.s 4 (pv 4)) (LO.ofD LD.int) (nomark _)) (LSs.cons (LS.asg (i := 5) sc.nd rfl (by first | exact .inl rfl | exact .inr rfl) (LF.ofD (LD.ix (LO.ofD (LD.ofF (LF.lst (LA.cons (LO.ofD LD.str) (LA.cons (LO.ofD LD.str) (LA.cons (LO.ofD LD.str) LA.nil)))))) (LO.ofD (LD.bin op_sub ok_sub (LO.s 4 (pv 4)) (LO.ofD LD.int))) (fun _ _ => rfl))))
    (LSs.cons (LS.asg (i := 6) sc.nd rfl (by first | exact .inl rfl | exact .inr rfl) (LF.cal c_law_formula_6b2b hr hgd rfl (LA.cons (LO.s 0 (pv 0)) (LA.cons (LO.ofD (LD.var 1 (pv 1))) (LA.cons (LO.ofD (LD.var 2 (pv 2))) (LA.cons (LO.ofD (LD.bin op_sub ok_sub (LO.s 3 (pv 3)) (LO.ofD LD.int))) LA.nil))))))
    (LSs.one (LS.ret (LF.ofD (LD.tup (LA.cons (LO.ofD (LD.var 5 (pv 5))) (LA.cons (LO.ofD (LD.var 6 (pv 6))) (LA.cons (LO.ofD (LD.ofF (LF.cal c_law_formula_6b2b hr hgd rfl (LA.cons (LO.s 0 (pv 0)) (LA.cons (LO.ofD (LD.var 1 (pv 1))) (LA.cons (LO.ofD (LD.var 2 (pv 2))) (LA.cons (LO.ofD (LD.bin op_sub ok_sub (LO.s 3 (pv 3)) (LO.ofD LD.int))) LA.nil))))))) LA.nil))))))))) LSs.nil)
    (LSs.cons (LS.ite (LT.cmp (op_eqU hr.units) ok_eq (LO.s 4 (pv 4)) (LO.ofD LD.int) (nomark _)) (LSs.cons (LS.asg (i := 7) sc.nd rfl (by first | exact .inl rfl | exact .inr rfl) (LF.cal c_law_draw_a51a hr hgd rfl (LA.cons (LO.s 0 (pv 0)) (LA.cons (LO.ofD (LD.bin op_addD ok_add (LO.s 2 (pv 2)) (LO.ofD LD.int))) LA.nil))))
    (LSs.one (LS.ret (LF.ofD (LD.tup (LA.cons (LO.ofD LD.str) (LA.cons (LO.ofD (LD.ofF (LF.cal c_law_formula_6b2b hr hgd rfl (LA.cons (LO.s 0 (pv 0)) (LA.cons (LO.ofD (LD.var 1 (pv 1))) (LA.cons (LO.ofD (LD.bin op_fdivW ok_fdiv (LO.s 2 (pv 2)) (LO.ofD (LD.bi (call_max2 rfl) ok_max2 rfl b_max (by decide +kernel) (LA.cons (LO.ofD LD.int) (LA.cons (LO.s 7 (pv 7)) LA.nil)))))) (LA.cons (LO.ofD (LD.bin op_sub ok_sub (LO.s 3 (pv 3)) (LO.ofD LD.int))) LA.nil))))))) (LA.cons (LO.ofD (LD.var 7 (pv 7))) LA.nil)))))))) LSs.nil)
    (LSs.cons (LS.asg (i := 8) sc.nd rfl (by first | exact .inl rfl | exact .inr rfl) (LF.ofD (LD.bin op_addD ok_add (LO.ofD LD.int) (LO.ofD (LD.ofF (LF.cal c_law_draw_a51a hr hgd rfl (LA.cons (LO.s 0 (pv 0)) (LA.cons (LO.ofD (LD.bin op_sub ok_sub (LO.s 2 (pv 2)) (LO.ofD LD.int))) LA.nil))))))))
    (LSs.cons (LS.asg (i := 6) sc.nd rfl (by first | exact .inl rfl | exact .inr rfl) (LF.cal c_law_formula_6b2b hr hgd rfl (LA.cons (LO.s 0 (pv 0)) (LA.cons (LO.ofD (LD.var 1 (pv 1))) (LA.cons (LO.ofD (LD.var 8 (pv 8))) (LA.cons (LO.ofD (LD.bin op_sub ok_sub (LO.s 3 (pv 3)) (LO.ofD LD.int))) LA.nil))))))
    (LSs.one (LS.ret (LF.ofD (LD.tup (LA.cons (LO.ofD LD.str) (LA.cons (LO.ofD (LD.var 6 (pv 6))) (LA.cons (LO.ofD (LD.ofF (LF.cal c_law_formula_6b2b hr hgd rfl (LA.cons (LO.s 0 (pv 0)) (LA.cons (LO.ofD (LD.var 1 (pv 1))) (LA.cons (LO.ofD (LD.bin op_sub ok_sub (LO.s 2 (pv 2)) (LO.s 8 (pv 8)))) (LA.cons (LO.ofD (LD.bin op_sub ok_sub (LO.s 3 (pv 3)) (LO.ofD LD.int))) LA.nil))))))) LA.nil)))))))))))))) hsp
abbrev st_law_long_4664 : Stmt := top 44
theorem sc_law_long_4664 : FnScope N_law_long_4664 ["deck"] (defScope st_law_long_4664) := ⟨rfl, rfl, rfl, by decide +kernel, rfl, by decide +kernel, by decide +kernel⟩
theorem cal_law_long_4664 {P : Program} {w : World} {K : PySem.W.Frag} {mg : Str → Option Value} {base : Heap} {k : Nat} (hnd : base.NoDigits) (D : Dn K mg "_law_long" st_law_long_4664 ["deck"]) {S_law_draw_a51a : FSpec} (c_law_draw_a51a : Cal P w K mg base k "_law_draw" ["deck", "many"] S_law_draw_a51a) {S_law_one_90da : FSpec} (c_law_one_90da : Cal P w K mg base k "_law_one" ["deck", "items"] S_law_one_90da) {S : FSpec}
    (len : ∀ args Q, S.sp args Q → args.length = 1) (hsp : ∀ args Q, S.sp args Q → ir_law_long_4664 S_law_draw_a51a S_law_one_90da (endsOf args Q) (rho0 N_law_long_4664 args)) : Cal P w K mg base (k + 1) "_law_long" ["deck"] S := by
  have sc := sc_law_long_4664
  exact def_cal D sc len (fun f cdv A outer s H E hr hgd =>
    (LSs.cons (LS.par (i := 1) (j := 2) rfl sc.nd rfl rfl (by decide) rfl rfl (LF.ofD (LD.bin op_addD ok_add (LO.ofD LD.int) (LO.ofD (LD.ofF (LF.cal c_law_draw_a51a hr hgd rfl (LA.cons (LO.s 0 (pv 0)) (LA.cons (LO.ofD LD.int) LA.nil))))))) (LF.lst (LA.cons (LO.ofD LD.str) (LA.cons (LO.ofD LD.str) (LA.cons (LO.ofD LD.str) (LA.cons (LO.ofD LD.str) LA.nil))))) rfl)
    (LSs.cons (LS.par (i := 3) (j := 4) rfl sc.nd rfl rfl (by decide) rfl rfl (LF.cal c_law_one_90da hr hgd rfl (LA.cons (LO.s 0 (pv 0)) (LA.cons (LO.ofD (LD.var 2 (pv 2))) LA.nil))) (LF.cal c_law_one_90da hr hgd rfl (LA.cons (LO.s 0 (pv 0)) (LA.cons (LO.ofD (LD.ofF (LF.lst (LA.cons (LO.ofD LD.str) (LA.cons (LO.ofD LD.str) (LA.cons (LO.ofD LD.str) LA.nil)))))) LA.nil))) rfl)
    (LSs.cons (LS.asg (i := 5) sc.nd rfl (by first | exact .inl rfl | exact .inr rfl) (LF.ofD (LD.bin op_repG ok_repG (LO.ofD LD.str) (LO.ofD (LD.bin op_sub ok_sub (LO.s 1 (pv 1)) (LO.ofD (LD.ofF (LF.cal c_law_draw_a51a hr hgd rfl (LA.cons (LO.s 0 (pv 0)) (LA.cons (LO.ofD LD.int) LA.nil))))))))))
    (LSs.cons (LS.asg (i := 6) sc.nd rfl (by first | exact .inl rfl | exact .inr rfl) (LF.ofD (LD.bin op_addD ok_add (LO.ofD (LD.bin op_addD ok_add (LO.ofD (LD.ofF (LF.cal c_law_one_90da hr hgd rfl (LA.cons (LO.s 0 (pv 0)) (LA.cons (LO.ofD (LD.ofF (LF.lst (LA.cons (LO.ofD LD.str) (LA.cons (LO.ofD LD.str) LA.nil))))) LA.nil))))) (LO.ofD (LD.ofF (LF.cal c_law_one_90da hr hgd rfl (LA.cons (LO.s 0 (pv 0)) (LA.cons (LO.ofD (LD.ofF (LF.lst (LA.cons (LO.ofD LD.str) (LA.cons (LO.ofD LD.str) (LA.cons (LO.ofD LD.str) LA.nil)))))) LA.nil))))))) (LO.ofD (LD.bin op_repG ok_repG (LO.ofD (LD.ofF (LF.cal c_law_one_90da hr hgd rfl (LA.cons (LO.s 0 (pv 0)) (LA.cons (LO.ofD (LD.ofF (LF.lst (LA.cons (LO.ofD LD.str) (LA.cons (LO.ofD LD.str) (LA.cons (LO.ofD LD.str) LA.nil)))))) LA.nil))))) (LO.ofD (LD.bin op_mulI ok_mul (LO.ofD LD.int) (LO.s 1 (pv 1)))))))))
    (LSs.cons (LS.asg (i := 7) sc.nd rfl (by first | exact .inl rfl | exact .inr rfl) (LF.lst (LA.cons (LO.ofD (LD.bin op_addD ok_add (LO.ofD (LD.bin op_addD ok_add (LO.ofD (LD.bin op_repG ok_repG (LO.ofD (LD.bin op_addD ok_add (LO.ofD (LD.bin op_addD ok_add (LO.ofD LD.str) (LO.s 3 (pv 3)))) (LO.s 4 (pv 4)))) (LO.s 1 (pv 1)))) (LO.ofD LD.str))) (LO.s 5 (pv 5)))) (LA.cons (LO.ofD (LD.bin op_addD ok_add (LO.ofD (LD.bin op_addD ok_add (LO.ofD (LD.bin op_repG ok_repG (LO.ofD LD.str) (LO.s 1 (pv 1)))) (LO.ofD LD.str))) (LO.ofD (LD.bin op_repG ok_repG (LO.ofD (LD.bin op_addD ok_add (LO.ofD (LD.bin op_addD ok_add (LO.s 4 (pv 4)) (LO.s 3 (pv 3)))) (LO.ofD LD.str))) (LO.s 1 (pv 1)))))) (LA.cons (LO.ofD (LD.bin op_addD ok_add (LO.ofD (LD.bin op_repG ok_repG (LO.ofD (LD.bin op_repG ok_repG (LO.ofD LD.str) (LO.ofD LD.int))) (LO.s 1 (pv 1)))) (LO.s 3 (pv 3)))) LA.nil)))))
    (LSs.cons (LS.asg (i := 7) sc.nd rfl (by first | exact .inl rfl | exact .inr rfl) (LF.cat (LO.s 7 (pv 7)) (LO.ofD (LD.ofF (LF.lst (LA.cons (LO.ofD (LD.var 6 (pv 6))) (LA.cons (LO.ofD (LD.bin op_addD ok_add (LO.ofD (LD.bin op_addD ok_add (LO.ofD (LD.bin op_addD ok_add (LO.ofD LD.str) (LO.s 4 (pv 4)))) (LO.s 6 (pv 6)))) (LO.ofD LD.str))) (LA.cons (LO.ofD (LD.bin op_addD ok_add (LO.ofD (LD.bin op_addD ok_add (LO.ofD LD.str) (LO.s 6 (pv 6)))) (LO.ofD LD.str))) (LA.cons (LO.ofD (LD.bin op_addD ok_add (LO.ofD (LD.bin op_addD ok_add (LO.ofD (LD.bin op_repG ok_repG (LO.ofD LD.str) (LO.s 1 (pv 1)))) (LO.ofD LD.str))) (LO.ofD (LD.bin op_repG ok_repG (LO.ofD LD.str) (LO.s 1 (pv 1)))))) (LA.cons (LO.ofD (LD.bin op_repG ok_repG (LO.ofD LD.str) (LO.s 1 (pv 1)))) LA.nil))))))))))
    (LSs.cons (LS.asg (i := 8) sc.nd rfl (by first | exact .inl rfl | exact .inr rfl) (LF.ofD (LD.bin op_sub ok_sub (LO.ofD LD.int) (LO.ofD (LD.ofF (LF.cal c_law_draw_a51a hr hgd rfl (LA.cons (LO.s 0 (pv 0)) (LA.cons (LO.ofD LD.int) LA.nil))))))))
    (LSs.one (LS.ret (LF.cal c_law_one_90da hr hgd rfl (LA.cons (LO.s 0 (pv 0)) (LA.cons (LO.ofD (LD.bin op_addD ok_add (LO.s 7 (pv 7)) (LO.ofD (LD.ofF (LF.lst (LA.cons (LO.ofD (LD.bin op_repG ok_repG (LO.ofD LD.str) (LO.ofD (LD.bin op_sub ok_sub (LO.ofD LD.int) (LO.ofD (LD.ofF (LF.cal c_law_draw_a51a hr hgd rfl (LA.cons (LO.s 0 (pv 0)) (LA.cons (LO.ofD LD.int) LA.nil))))))))) (LA.cons (LO.ofD (LD.bin op_addD ok_add (LO.ofD (LD.bin op_addD ok_add (LO.ofD (LD.bin op_repG ok_repG (LO.ofD LD.str) (LO.s 8 (pv 8)))) (LO.ofD LD.str))) (LO.ofD (LD.bin op_repG ok_repG (LO.ofD LD.str) (LO.s 8 (pv 8)))))) LA.nil))))))) LA.nil))))))))))))) hsp
abbrev st_law_tried_1dba : Stmt := top 45
theorem sc_law_tried_1dba : FnScope N_law_tried_1dba ["deck"] (defScope st_law_tried_1dba) := ⟨rfl, rfl, rfl, by decide +kernel, rfl, by decide +kernel, by decide +kernel⟩
theorem cal_law_tried_1dba {P : Program} {w : World} {K : PySem.W.Frag} {mg : Str → Option Value} {base : Heap} {k : Nat} (hnd : base.NoDigits) (D : Dn K mg "_law_tried" st_law_tried_1dba ["deck"]) {S_law_written_9dd1 : FSpec} (c_law_written_9dd1 : Cal P w K mg base k "_law_written" ["formula"] S_law_written_9dd1) {S_law_formula_6b2b : FSpec} (c_law_formula_6b2b : Cal P w K mg base k "_law_formula" ["deck", "letters", "room", "deep"] S_law_formula_6b2b) {S_law_one_90da : FSpec} (c_law_one_90da : Cal P w K mg base k "_law_one" ["deck", "items"] S_law_one_90da) {S_law_draw_a51a : FSpec} (c_law_draw_a51a : Cal P w K mg base k "_law_draw" ["deck", "many"] S_law_draw_a51a) {S_law_long_4664 : FSpec} (c_law_long_4664 : Cal P w K mg base k "_law_long" ["deck"] S_law_long_4664) (b_range : mg "range" = none) (b_len : mg "len" = none) (b_list : mg "list" = none) {S : FSpec}
    (len : ∀ args Q, S.sp args Q → args.length = 1) (hsp : ∀ args Q, S.sp args Q → ir_law_tried_1dba S_law_written_9dd1 S_law_formula_6b2b S_law_one_90da S_law_draw_a51a S_law_long_4664 (endsOf args Q) (rho0 N_law_tried_1dba args)) : Cal P w K mg base (k + 1) "_law_tried" ["deck"] S := by
  have sc := sc_law_tried_1dba
  exact def_cal D sc len (fun f cdv A outer s H E hr hgd =>
    (LSs.cons (LS.asg (i := 1) sc.nd rfl (by first | exact .inl rfl | exact .inr rfl) (LF.cal c_law_written_9dd1 hr hgd rfl (LA.cons (LO.ofD (LD.ofF (LF.cal c_law_formula_6b2b hr hgd rfl (LA.cons (LO.s 0 (pv 0)) (LA.cons (LO.ofD (LD.ofF (LF.lst (LA.cons (LO.ofD LD.str) (LA.cons (LO.ofD LD.str) LA.nil))))) (LA.cons (LO.ofD LD.int) (LA.cons (LO.ofD (LD.ofF (LF.cal c_law_one_90da hr hgd rfl (LA.cons (LO.s 0 (pv 0)) (LA.cons (LO.ofD (LD.ofF (LF.lst (LA.cons (LO.ofD LD.int) (LA.cons (LO.ofD LD.int) (LA.cons (LO.ofD LD.int) LA.nil)))))) LA.nil))))) LA.nil))))))) LA.nil)))
    (LSs.cons (LS.lc (i := 2) (pt := (.nm 3)) (vs := [3]) rfl sc.nd rfl rfl (sw_true rfl rfl rfl (by decide +kernel)) (LI.range1 rfl b_range (LA.cons (LO.ofD LD.int) LA.nil)) (blk_mk (N := N_law_tried_1dba) (own := [("again", 3)]) ["text", "deck"] (by decide +kernel) ⟨by first | exact .inl rfl | exact .inr rfl, by first | exact .inl rfl | exact .inr rfl, trivial⟩) rfl (by decide) (fun _ _ _ _ _ => (pg_name (i := 3) sc.nd rfl (by first | exact .inl rfl | exact .inr rfl))) (fun _ _ _ _ _ => LT.yes) (fun _ _ _ _ _ => (LD.sl (LO.s 1 (pv 1)) LP.none (LP.some (LO.ofD (LD.ofF (LF.cal c_law_draw_a51a hr hgd rfl (LA.cons (LO.s 0 (pv 0)) (LA.cons (LO.ofD (LD.bin op_addD ok_add (LO.ofD (LD.bi call_lenU ok_len rfl b_len (by decide +kernel) (LA.cons (LO.s 1 (pv 1)) LA.nil))) (LO.ofD LD.int))) LA.nil)))))))))
    (LSs.cons (LS.app (pe_bm PySem.F.plainAttrs_list PySem.F.slot_list_append PySem.F.type_list_append mt_append (pv 2) (pa_cons (pD (LD.join (LO.ofD (LD.ofF (LF.lc (pt := (.nm 3)) (vs := [3]) rfl sc.nd (LI.range1 rfl b_range (LA.cons (LO.ofD (LD.ofF (LF.cal c_law_draw_a51a hr hgd rfl (LA.cons (LO.s 0 (pv 0)) (LA.cons (LO.ofD LD.int) LA.nil))))) LA.nil)) (blk_mk (N := N_law_tried_1dba) (own := [("again", 3)]) ["deck"] (by decide +kernel) ⟨by first | exact .inl rfl | exact .inr rfl, trivial⟩) rfl (by decide) (fun _ _ _ _ _ => (pg_name (i := 3) sc.nd rfl (by first | exact .inl rfl | exact .inr rfl))) (fun _ _ _ _ _ => LT.yes) (fun _ _ _ _ _ => (LD.ofF (LF.cal c_law_one_90da hr hgd rfl (LA.cons (LO.s 0 (pv 0)) (LA.cons (LO.ofD (LD.ofF (LF.listS rfl rfl b_list (LA.cons (LO.ofD LD.str) LA.nil)))) LA.nil)))))))))) pa_nil)))
    (LSs.one (LS.ret (LF.cat (LO.s 2 (pv 2)) (LO.ofD (LD.ofF (LF.lst (LA.cons (LO.ofD (LD.ofF (LF.cal c_law_long_4664 hr hgd rfl (LA.cons (LO.s 0 (pv 0)) LA.nil)))) (LA.cons (LO.ofD (LD.sl (LO.ofD (LD.ofF (LF.cal c_law_long_4664 hr hgd rfl (LA.cons (LO.s 0 (pv 0)) LA.nil)))) LP.none (LP.some (LO.ofD (LD.bin op_addD ok_add (LO.ofD LD.int) (LO.ofD (LD.ofF (LF.cal c_law_draw_a51a hr hgd rfl (LA.cons (LO.s 0 (pv 0)) (LA.cons (LO.ofD LD.int) LA.nil)))))))))) (LA.cons (LO.ofD LD.str) LA.nil))))))))))))) hsp
abbrev st_law_figures_7a4d : Stmt := top 36
theorem sc_law_figures_7a4d : FnScope N_law_figures_7a4d ["text", "at"] (defScope st_law_figures_7a4d) := ⟨rfl, rfl, rfl, by decide +kernel, rfl, by decide +kernel, by decide +kernel⟩
theorem cal_law_figures_7a4d {P : Program} {w : World} {K : PySem.W.Frag} {mg : Str → Option Value} {base : Heap} {k : Nat} (hnd : base.NoDigits) (D : Dn K mg "_law_figures" st_law_figures_7a4d ["text", "at"]) {S : FSpec}
    (len : ∀ args Q, S.sp args Q → args.length = 2) (hsp : ∀ args Q, S.sp args Q → ir_law_figures_7a4d (endsOf args Q) (rho0 N_law_figures_7a4d args)) : Cal P w K mg base (k + 1) "_law_figures" ["text", "at"] S := by
  have sc := sc_law_figures_7a4d
  exact def_cal D sc len (fun f cdv A outer s H E hr hgd =>
    (LSs.cons (LS.ite (LT.w (LW.or (LT.cmp (op_eqU hr.units) ok_eq (LO.ofD (LD.sl (LO.s 0 (pv 0)) (LP.some (LO.s 1 (pv 1))) (LP.some (LO.ofD (LD.bin op_addD ok_add (LO.s 1 (pv 1)) (LO.ofD LD.int)))))) (LO.ofD LD.str) (nomark _)) (LW.or1 (LT.cmp op_notin_str ok_notInS (LO.ofD (LD.ix (LO.s 0 (pv 0)) (LO.s 1 (pv 1)) (fun _ _ => rfl))) (LO.ofD LD.str) rfl)))) (LSs.one (LS.ret (LF.ofD (LD.tup (LA.cons (LO.ofD (LD.var 1 (pv 1))) (LA.cons (LO.ofD LD.bl) LA.nil)))))) LSs.nil)
    (LSs.cons (LS.ite (LT.cmp (op_eqU hr.units) ok_eq (LO.ofD (LD.ix (LO.s 0 (pv 0)) (LO.s 1 (pv 1)) (fun _ _ => rfl))) (LO.ofD LD.str) (nomark _)) (LSs.one (LS.ret (LF.ofD (LD.tup (LA.cons (LO.ofD (LD.bin op_addD ok_add (LO.s 1 (pv 1)) (LO.ofD LD.int))) (LA.cons (LO.ofD LD.bl) LA.nil)))))) LSs.nil)
    (LSs.cons (LS.while PassesOwn.never (LT.w (LW.and (LT.cmp (op_neU hr.units) ok_ne (LO.ofD (LD.sl (LO.s 0 (pv 0)) (LP.some (LO.s 1 (pv 1))) (LP.some (LO.ofD (LD.bin op_addD ok_add (LO.s 1 (pv 1)) (LO.ofD LD.int)))))) (LO.ofD LD.str) (nomark _)) (LW.and1 (LT.cmp op_in_str ok_inS (LO.ofD (LD.ix (LO.s 0 (pv 0)) (LO.s 1 (pv 1)) (fun _ _ => rfl))) (LO.ofD LD.str) rfl)))) (LSs.one (LS.asg (i := 1) sc.nd rfl (by first | exact .inl rfl | exact .inr rfl) (LF.ofD (LD.bin op_addD ok_add (LO.s 1 (pv 1)) (LO.ofD LD.int))))))
    (LSs.one (LS.ret (LF.ofD (LD.tup (LA.cons (LO.ofD (LD.var 1 (pv 1))) (LA.cons (LO.ofD LD.bl) LA.nil)))))))))) hsp
abbrev st_law_leaf_at_841f : Stmt := top 37
theorem sc_law_leaf_at_841f : FnScope N_law_leaf_at_841f ["text", "at"] (defScope st_law_leaf_at_841f) := ⟨rfl, rfl, rfl, by decide +kernel, rfl, by decide +kernel, by decide +kernel⟩
theorem cal_law_leaf_at_841f {P : Program} {w : World} {K : PySem.W.Frag} {mg : Str → Option Value} {base : Heap} {k : Nat} (hnd : base.NoDigits) (D : Dn K mg "_law_leaf_at" st_law_leaf_at_841f ["text", "at"]) {S_law_figures_7a4d : FSpec} (c_law_figures_7a4d : Cal P w K mg base k "_law_figures" ["text", "at"] S_law_figures_7a4d) (b_int : mg "int" = none) {S : FSpec}
    (len : ∀ args Q, S.sp args Q → args.length = 2) (hsp : ∀ args Q, S.sp args Q → ir_law_leaf_at_841f S_law_figures_7a4d (endsOf args Q) (rho0 N_law_leaf_at_841f args)) : Cal P w K mg base (k + 1) "_law_leaf_at" ["text", "at"] S := by
  have sc := sc_law_leaf_at_841f
  exact def_cal D sc len (fun f cdv A outer s H E hr hgd =>
    (LSs.cons (LS.ite (LT.cmp op_in_seq (ok_in false) (LO.ofD (LD.sl (LO.s 0 (pv 0)) (LP.some (LO.s 1 (pv 1))) (LP.some (LO.ofD (LD.bin op_addD ok_add (LO.s 1 (pv 1)) (LO.ofD LD.int)))))) (LO.ofD (LD.tup (LA.cons (LO.ofD LD.str) (LA.cons (LO.ofD LD.str) LA.nil)))) rfl) (LSs.one (LS.ret (LF.ofD (LD.tup (LA.cons (LO.ofD (LD.bin op_addD ok_add (LO.s 1 (pv 1)) (LO.ofD LD.int))) (LA.cons (LO.ofD (LD.ix (LO.s 0 (pv 0)) (LO.s 1 (pv 1)) (fun _ _ => rfl))) LA.nil)))))) LSs.nil)
    (LSs.cons (LS.asg (i := 2) sc.nd rfl (by first | exact .inl rfl | exact .inr rfl) (LF.ofD (LD.ite (LT.cmp (op_eqU hr.units) ok_eq (LO.ofD (LD.sl (LO.s 0 (pv 0)) (LP.some (LO.s 1 (pv 1))) (LP.some (LO.ofD (LD.bin op_addD ok_add (LO.s 1 (pv 1)) (LO.ofD LD.int)))))) (LO.ofD LD.str) (nomark _)) (LD.bin op_addD ok_add (LO.s 1 (pv 1)) (LO.ofD LD.int)) (LD.var 1 (pv 1)))))
    (LSs.cons (LS.ite (LT.w (LW.and (LT.cmp op_gt (ok_cI _) (LO.s 2 (pv 2)) (LO.s 1 (pv 1)) (nomark _)) (LW.and1 (LT.cmp (op_eqU hr.units) ok_eq (LO.ofD (LD.sl (LO.s 0 (pv 0)) (LP.some (LO.s 2 (pv 2))) (LP.some (LO.ofD (LD.bin op_addD ok_add (LO.s 2 (pv 2)) (LO.ofD LD.int)))))) (LO.ofD LD.str) (nomark _))))) (LSs.one (LS.ret (LF.ofD (LD.tup (LA.cons (LO.ofD (LD.var 2 (pv 2))) (LA.cons (LO.ofD LD.non) LA.nil)))))) LSs.nil)
    (LSs.cons (LS.unp (pt := (.tp [3, 4])) (pg_tup rfl (pgs_cons (pg_name (i := 3) sc.nd rfl (by first | exact .inl rfl | exact .inr rfl)) (pgs_cons (pg_name (i := 4) sc.nd rfl (by first | exact .inl rfl | exact .inr rfl)) pgs_nil))) (LD.ofF (LF.cal c_law_figures_7a4d hr hgd rfl (LA.cons (LO.ofD (LD.var 0 (pv 0))) (LA.cons (LO.ofD (LD.var 2 (pv 2))) LA.nil)))))
    (LSs.one (LS.ret (LF.ofD (LD.tup (LA.cons (LO.ofD (LD.var 3 (pv 3))) (LA.cons (LO.ofD (LD.ite (LT.val (LD.var 4 (pv 4))) (LD.bt (call_int_strL hnd) ok_intL rfl b_int (by decide +kernel) (LA.cons (LO.ofD (LD.sl (LO.s 0 (pv 0)) (LP.some (LO.s 1 (pv 1))) (LP.some (LO.s 3 (pv 3))))) LA.nil)) LD.non)) LA.nil))))))))))) hsp
abbrev st_law_read_076a : Stmt := top 38
theorem sc_law_read_076a : FnScope N_law_read_076a ["text"] (defScope st_law_read_076a) := ⟨rfl, rfl, rfl, by decide +kernel, rfl, by decide +kernel, by decide +kernel⟩
theorem cal_law_read_076a {P : Program} {w : World} {K : PySem.W.Frag} {mg : Str → Option Value} {base : Heap} {k : Nat} (hnd : base.NoDigits) (D : Dn K mg "_law_read" st_law_read_076a ["text"]) {S_law_leaf_at_841f : FSpec} (c_law_leaf_at_841f : Cal P w K mg base k "_law_leaf_at" ["text", "at"] S_law_leaf_at_841f) {S_law_figures_7a4d : FSpec} (c_law_figures_7a4d : Cal P w K mg base k "_law_figures" ["text", "at"] S_law_figures_7a4d) (b_int : mg "int" = none) (b_len : mg "len" = none) {S : FSpec}
    (len : ∀ args Q, S.sp args Q → args.length = 1) (hsp : ∀ args Q, S.sp args Q → ir_law_read_076a S_law_leaf_at_841f S_law_figures_7a4d (endsOf args Q) (rho0 N_law_read_076a args)) : Cal P w K mg base (k + 1) "_law_read" ["text"] S := by
  have sc := sc_law_read_076a
  exact def_cal D sc len (fun f cdv A outer s H E hr hgd =>
    (LSs.cons (LS.par (i := 1) (j := 2) rfl sc.nd rfl rfl (by decide) rfl rfl (LF.ofD LD.int) (LF.lst LA.nil) rfl)
    (LSs.one (LS.while PassesOwn.never (LT.val LD.bl) (LSs.cons (LS.while PassesOwn.never (LT.cmp (op_eqU hr.units) ok_eq (LO.ofD (LD.sl (LO.s 0 (pv 0)) (LP.some (LO.s 1 (pv 1))) (LP.some (LO.ofD (LD.bin op_addD ok_add (LO.s 1 (pv 1)) (LO.ofD LD.int)))))) (LO.ofD LD.str) (nomark _)) (LSs.cons (LS.app (pe_bm PySem.F.plainAttrs_list PySem.F.slot_list_append PySem.F.type_list_append mt_append (pv 2) (pa_cons (pD LD.non) pa_nil)))
    (LSs.one (LS.asg (i := 1) sc.nd rfl (by first | exact .inl rfl | exact .inr rfl) (LF.ofD (LD.bin op_addD ok_add (LO.s 1 (pv 1)) (LO.ofD LD.int)))))))
    (LSs.cons (LS.unp (pt := (.tp [1, 3])) (pg_tup rfl (pgs_cons (pg_name (i := 1) sc.nd rfl (by first | exact .inl rfl | exact .inr rfl)) (pgs_cons (pg_name (i := 3) sc.nd rfl (by first | exact .inl rfl | exact .inr rfl)) pgs_nil))) (LD.ofF (LF.cal c_law_leaf_at_841f hr hgd rfl (LA.cons (LO.ofD (LD.var 0 (pv 0))) (LA.cons (LO.ofD (LD.var 1 (pv 1))) LA.nil)))))
    (LSs.cons (LS.ite (LT.cmp op_isN ok_isN (LO.s 3 (pv 3)) (LO.ofD LD.non) (nomark _)) (LSs.one (LS.ret (LF.ofD (LD.tup (LA.cons (LO.ofD LD.str) (LA.cons (LO.ofD (LD.var 1 (pv 1))) LA.nil)))))) LSs.nil)
    (LSs.cons (LS.while PassesOwn.never (LT.w (LW.and (LT.cmp (op_neNil hr.units) (ok_nil true) (LO.s 2 (pv 2)) (LO.ofD (LD.ofF (LF.lst LA.nil))) (nomark _)) (LW.and1 (LT.w (LW.or (LT.cmp op_notN ok_notN (LO.ofD (LD.ix (LO.s 2 (pv 2)) (LO.ofD (LD.neg (LO.ofD LD.int))) (fun _ _ => rfl))) (LO.ofD LD.non) (nomark _)) (LW.or1 (LT.cmp (op_eqU hr.units) ok_eq (LO.ofD (LD.sl (LO.s 0 (pv 0)) (LP.some (LO.s 1 (pv 1))) (LP.some (LO.ofD (LD.bin op_addD ok_add (LO.s 1 (pv 1)) (LO.ofD LD.int)))))) (LO.ofD LD.str) (nomark _)))))))) (LSs.cons (LS.ite (LT.cmp op_isN ok_isN (LO.ofD (LD.ix (LO.s 2 (pv 2)) (LO.ofD (LD.neg (LO.ofD LD.int))) (fun _ _ => rfl))) (LO.ofD LD.non) (nomark _)) (LSs.cons (LS.asg (i := 4) sc.nd rfl (by first | exact .inl rfl | exact .inr rfl) (LF.ofD (LD.bin op_addD ok_add (LO.s 1 (pv 1)) (LO.ofD LD.int))))
    (LSs.cons (LS.unp (pt := (.tp [1, 5])) (pg_tup rfl (pgs_cons (pg_name (i := 1) sc.nd rfl (by first | exact .inl rfl | exact .inr rfl)) (pgs_cons (pg_name (i := 5) sc.nd rfl (by first | exact .inl rfl | exact .inr rfl)) pgs_nil))) (LD.ofF (LF.cal c_law_figures_7a4d hr hgd rfl (LA.cons (LO.ofD (LD.var 0 (pv 0))) (LA.cons (LO.ofD (LD.var 4 (pv 4))) LA.nil)))))
    (LSs.one (LS.asg (i := 3) sc.nd rfl (by first | exact .inl rfl | exact .inr rfl) (LF.ofD (LD.ite (LT.val (LD.var 5 (pv 5))) (LD.tup (LA.cons (LO.ofD LD.str) (LA.cons (LO.ofD (LD.var 3 (pv 3))) (LA.cons (LO.ofD (LD.bt (call_int_strL hnd) ok_intL rfl b_int (by decide +kernel) (LA.cons (LO.ofD (LD.sl (LO.s 0 (pv 0)) (LP.some (LO.s 4 (pv 4))) (LP.some (LO.s 1 (pv 1))))) LA.nil))) LA.nil)))) LD.non)))))) (LSs.one (LS.asg (i := 3) sc.nd rfl (by first | exact .inl rfl | exact .inr rfl) (LF.ofD (LD.bin op_addT ok_addT (LO.ofD (LD.ix (LO.s 2 (pv 2)) (LO.ofD (LD.neg (LO.ofD LD.int))) (fun _ _ => rfl))) (LO.ofD (LD.tup (LA.cons (LO.ofD (LD.var 3 (pv 3))) LA.nil))))))))
    (LSs.cons (LS.ite (LT.w (LW.or (LT.cmp op_isN ok_isN (LO.s 3 (pv 3)) (LO.ofD LD.non) (nomark _)) (LW.or1 (LT.cmp (op_neU hr.units) ok_ne (LO.ofD (LD.sl (LO.s 0 (pv 0)) (LP.some (LO.s 1 (pv 1))) (LP.some (LO.ofD (LD.bin op_addD ok_add (LO.s 1 (pv 1)) (LO.ofD LD.int)))))) (LO.ofD LD.str) (nomark _))))) (LSs.one (LS.ret (LF.ofD (LD.tup (LA.cons (LO.ofD LD.str) (LA.cons (LO.ofD (LD.var 1 (pv 1))) LA.nil)))))) LSs.nil)
    (LSs.cons (LS.asg (i := 1) sc.nd rfl (by first | exact .inl rfl | exact .inr rfl) (LF.ofD (LD.bin op_addD ok_add (LO.s 1 (pv 1)) (LO.ofD LD.int))))
    (LSs.one (LS.drop (LD.pop (pe_bm0 PySem.F.plainAttrs_list PySem.F.slot_list_pop PySem.F.type_list_pop mt_pop (pv 2)))))))))
    (LSs.cons (LS.ite (LT.cmp (op_eqNil hr.units) (ok_nil false) (LO.s 2 (pv 2)) (LO.ofD (LD.ofF (LF.lst LA.nil))) (nomark _)) (LSs.one (LS.ret (LF.ofD (LD.ite (LT.cmp (op_eqU hr.units) ok_eq (LO.s 1 (pv 1)) (LO.ofD (LD.bi call_lenU ok_len rfl b_len (by decide +kernel) (LA.cons (LO.s 0 (pv 0)) LA.nil))) (nomark _)) (LD.tup (LA.cons (LO.ofD LD.str) (LA.cons (LO.ofD (LD.var 3 (pv 3))) LA.nil))) (LD.tup (LA.cons (LO.ofD LD.str) (LA.cons (LO.ofD (LD.var 1 (pv 1))) LA.nil))))))) LSs.nil)
    (LSs.cons (LS.ite (LT.cmp op_notIn_seq (ok_in true) (LO.ofD (LD.sl (LO.s 0 (pv 0)) (LP.some (LO.s 1 (pv 1))) (LP.some (LO.ofD (LD.bin op_addD ok_add (LO.s 1 (pv 1)) (LO.ofD LD.int)))))) (LO.ofD (LD.tup (LA.cons (LO.ofD LD.str) (LA.cons (LO.ofD LD.str) (LA.cons (LO.ofD LD.str) LA.nil))))) rfl) (LSs.one (LS.ret (LF.ofD (LD.tup (LA.cons (LO.ofD LD.str) (LA.cons (LO.ofD (LD.var 1 (pv 1))) LA.nil)))))) LSs.nil)
    (LSs.cons (LS.setL (LD.tup (LA.cons (LO.ofD (LD.ixF (Nat.lt_of_le_of_lt (Nat.add_le_add_left (by decide : 1 ≤ 64) _) hr.units) (LF.dict (LPr.cs LD.str (LPr.cs LD.str (LPr.cs LD.str LPr.nil))) (by decide +kernel) rfl (by simp) (by decide +kernel) (by decide +kernel)) (LO.ofD (LD.ix (LO.s 0 (pv 0)) (LO.s 1 (pv 1)) (fun _ _ => rfl))) (fun _ _ => rfl))) (LA.cons (LO.ofD (LD.var 3 (pv 3))) LA.nil))) (pg_sub (pv 2) (pO (LO.ofD (LD.neg (LO.ofD LD.int)))) set_list))
    (LSs.one (LS.asg (i := 1) sc.nd rfl (by first | exact .inl rfl | exact .inr rfl) (LF.ofD (LD.bin op_addD ok_add (LO.s 1 (pv 1)) (LO.ofD LD.int)))))))))))))))) hsp
abbrev st_law_layers_5512 : Stmt := top 39
theorem sc_law_layers_5512 : FnScope N_law_layers_5512 ["value"] (defScope st_law_layers_5512) := ⟨rfl, rfl, rfl, by decide +kernel, rfl, by decide +kernel, by decide +kernel⟩
theorem cal_law_layers_5512 {P : Program} {w : World} {K : PySem.W.Frag} {mg : Str → Option Value} {base : Heap} {k : Nat} (hnd : base.NoDigits) (D : Dn K mg "_law_layers" st_law_layers_5512 ["value"]) (b_isinstance : mg "isinstance" = none) (b_tuple : mg "tuple" = none) {S : FSpec}
    (len : ∀ args Q, S.sp args Q → args.length = 1) (hsp : ∀ args Q, S.sp args Q → ir_law_layers_5512 (endsOf args Q) (rho0 N_law_layers_5512 args)) : Cal P w K mg base (k + 1) "_law_layers" ["value"] S := by
  have sc := sc_law_layers_5512
  exact def_cal D sc len (fun f cdv A outer s H E hr hgd =>
    (LSs.cons (LS.par (i := 1) (j := 2) rfl sc.nd rfl rfl (by decide) rfl rfl (LF.lst LA.nil) (LF.lst (LA.cons (LO.ofD (LD.var 0 (pv 0))) LA.nil)) rfl)
    (LSs.cons (LS.while PassesOwn.never (LT.cmp (op_neNil hr.units) (ok_nil true) (LO.s 2 (pv 2)) (LO.ofD (LD.ofF (LF.lst LA.nil))) (nomark _)) (LSs.cons (LS.app (pe_bm PySem.F.plainAttrs_list PySem.F.slot_list_append PySem.F.type_list_append mt_append (pv 1) (pa_cons (pD (LD.var 2 (pv 2))) pa_nil)))
    (LSs.cons (LS.asg (i := 3) sc.nd rfl (by first | exact .inl rfl | exact .inr rfl) (LF.lst LA.nil))
    (LSs.cons (LS.for (pt := (.nm 4)) PassesOwn.never rfl (LI.seq (LD.var 2 (pv 2))) (pg_name (i := 4) sc.nd rfl (by first | exact .inl rfl | exact .inr rfl)) (LSs.one (LS.ite (LT.val (LD.isi "tuple" (by simp) rfl b_isinstance rfl b_tuple (by decide +kernel) (LO.s 4 (pv 4)))) (LSs.one (LS.ext (pe_bm PySem.F.plainAttrs_list PySem.F.slot_list_extend PySem.F.type_list_extend mt_extD (pv 3) (pa_cons (pO (LO.ofD (LD.ite (LT.cmp (op_eqU hr.units) ok_eq (LO.ofD (LD.ix (LO.s 4 (pv 4)) (LO.ofD LD.int) (fun _ _ => rfl))) (LO.ofD LD.str) (nomark _)) (LD.ofF (LF.lst (LA.cons (LO.ofD (LD.ix (LO.s 4 (pv 4)) (LO.ofD LD.int) (fun _ _ => rfl))) LA.nil))) (LD.ofF (LF.lst (LA.cons (LO.ofD (LD.ix (LO.s 4 (pv 4)) (LO.ofD LD.int) (fun _ _ => rfl))) (LA.cons (LO.ofD (LD.ix (LO.s 4 (pv 4)) (LO.ofD LD.int) (fun _ _ => rfl))) LA.nil))))))) pa_nil)))) LSs.nil)))
    (LSs.one (LS.asg (i := 2) sc.nd rfl (by first | exact .inl rfl | exact .inr rfl) (LF.ofD (LD.var 3 (pv 3)))))))))
    (LSs.one (LS.retV 1 (pv 1)))))) hsp
abbrev st_law_reach_192f : Stmt := top 40
theorem sc_law_reach_192f : FnScope N_law_reach_192f ["value"] (defScope st_law_reach_192f) := ⟨rfl, rfl, rfl, by decide +kernel, rfl, by decide +kernel, by decide +kernel⟩
theorem cal_law_reach_192f {P : Program} {w : World} {K : PySem.W.Frag} {mg : Str → Option Value} {base : Heap} {k : Nat} (hnd : base.NoDigits) (D : Dn K mg "_law_reach" st_law_reach_192f ["value"]) {S_law_reach_192f : FSpec} (c_law_reach_192f : Cal P w K mg base k "_law_reach" ["value"] S_law_reach_192f) (b_isinstance : mg "isinstance" = none) (b_tuple : mg "tuple" = none) (b_max : mg "max" = none) (b_int : mg "int" = none) {S : FSpec}
    (len : ∀ args Q, S.sp args Q → args.length = 1) (hsp : ∀ args Q, S.sp args Q → ir_law_reach_192f S_law_reach_192f (endsOf args Q) (rho0 N_law_reach_192f args)) : Cal P w K mg base (k + 1) "_law_reach" ["value"] S := by
  have sc := sc_law_reach_192f
  exact def_cal D sc len (fun f cdv A outer s H E hr hgd =>
    (LSs.cons (LS.ite (LT.not (LT.val (LD.isi "tuple" (by simp) rfl b_isinstance rfl b_tuple (by decide +kernel) (LO.s 0 (pv 0))))) (LSs.one (LS.ret (LF.ofD LD.int))) LSs.nil)
    (LSs.cons (LS.asg (i := 1) sc.nd rfl (by first | exact .inl rfl | exact .inr rfl) (LF.cal c_law_reach_192f hr hgd rfl (LA.cons (LO.ofD (LD.ix (LO.s 0 (pv 0)) (LO.ofD LD.int) (fun _ _ => rfl))) LA.nil)))
    (LSs.cons (LS.asg (i := 2) sc.nd rfl (by first | exact .inl rfl | exact .inr rfl) (LF.ofD (LD.ite (LT.cmp (op_eqU hr.units) ok_eq (LO.ofD (LD.ix (LO.s 0 (pv 0)) (LO.ofD LD.int) (fun _ _ => rfl))) (LO.ofD LD.str) (nomark _)) LD.int (LD.ofF (LF.cal c_law_reach_192f hr hgd rfl (LA.cons (LO.ofD (LD.ix (LO.s 0 (pv 0)) (LO.ofD LD.int) (fun _ _ => rfl))) LA.nil))))))
    (LSs.cons (LS.ite (LT.w (LW.or (LT.cmp op_gt (ok_cI _) (LO.s 1 (pv 1)) (LO.ofD LD.int) (nomark _)) (LW.or1 (LT.cmp op_gt (ok_cI _) (LO.s 2 (pv 2)) (LO.ofD LD.int) (nomark _))))) (LSs.one (LS.ret (LF.ofD LD.int))) LSs.nil)
    (LSs.cons (LS.ite (LT.cmp (op_eqU hr.units) ok_eq (LO.ofD (LD.ix (LO.s 0 (pv 0)) (LO.ofD LD.int) (fun _ _ => rfl))) (LO.ofD LD.str) (nomark _)) (LSs.one (LS.ret (LF.ofD (LD.bi (call_max2 rfl) ok_max2 rfl b_max (by decide +kernel) (LA.cons (LO.ofD LD.int) (LA.cons (LO.ofD (LD.bt call_int1 ok_int rfl b_int (by decide +kernel) (LA.cons (LO.ofD (LD.bin op_mulI ok_mul (LO.ofD (LD.ix (LO.s 0 (pv 0)) (LO.ofD LD.int) (fun _ _ => rfl))) (LO.s 1 (pv 1)))) LA.nil))) LA.nil)))))) LSs.nil)
    (LSs.one (LS.ret (LF.ofD (LD.ite (LT.cmp (op_eqU hr.units) ok_eq (LO.ofD (LD.ix (LO.s 0 (pv 0)) (LO.ofD LD.int) (fun _ _ => rfl))) (LO.ofD LD.str) (nomark _)) (LD.bin op_addD ok_add (LO.s 1 (pv 1)) (LO.s 2 (pv 2))) (LD.bi (call_max2 rfl) ok_max2 rfl b_max (by decide +kernel) (LA.cons (LO.ofD (LD.bt call_int1 ok_int rfl b_int (by decide +kernel) (LA.cons (LO.s 1 (pv 1)) LA.nil))) (LA.cons (LO.ofD (LD.bt call_int1 ok_int rfl b_int (by decide +kernel) (LA.cons (LO.s 2 (pv 2)) LA.nil))) LA.nil))))))))))))) hsp
abbrev st_law_is_formula_7ea6 : Stmt := top 41
theorem sc_law_is_formula_7ea6 : FnScope N_law_is_formula_7ea6 ["value"] (defScope st_law_is_formula_7ea6) := ⟨rfl, rfl, rfl, by decide +kernel, rfl, by decide +kernel, by decide +kernel⟩
theorem cal_law_is_formula_7ea6 {P : Program} {w : World} {K : PySem.W.Frag} {mg : Str → Option Value} {base : Heap} {k : Nat} (hnd : base.NoDigits) (D : Dn K mg "_law_is_formula" st_law_is_formula_7ea6 ["value"]) {S_law_layers_5512 : FSpec} (c_law_layers_5512 : Cal P w K mg base k "_law_layers" ["value"] S_law_layers_5512) {S_law_reach_192f : FSpec} (c_law_reach_192f : Cal P w K mg base k "_law_reach" ["value"] S_law_reach_192f) (b_sum : mg "sum" = none) (b_len : mg "len" = none) (b_abs : mg "abs" = none) (b_isinstance : mg "isinstance" = none) (b_int : mg "int" = none) (b_tuple : mg "tuple" = none) {S : FSpec}
    (len : ∀ args Q, S.sp args Q → args.length = 1) (hsp : ∀ args Q, S.sp args Q → ir_law_is_formula_7ea6 S_law_layers_5512 S_law_reach_192f (endsOf args Q) (rho0 N_law_is_formula_7ea6 args)) : Cal P w K mg base (k + 1) "_law_is_formula" ["value"] S := by
  have sc := sc_law_is_formula_7ea6
  exact def_cal D sc len (fun f cdv A outer s H E hr hgd =>
    (LSs.cons (LS.asg (i := 1) sc.nd rfl (by first | exact .inl rfl | exact .inr rfl) (LF.cal c_law_layers_5512 hr hgd rfl (LA.cons (LO.ofD (LD.var 0 (pv 0))) LA.nil)))
    (LSs.cons (LS.ite (LT.w (LW.or (LT.cmp op_gt (ok_cI _) (LO.ofD (LD.bi call_lenU ok_len rfl b_len (by decide +kernel) (LA.cons (LO.s 1 (pv 1)) LA.nil))) (LO.ofD LD.int) (nomark _)) (LW.or1 (LT.cmp op_gt (ok_cI _) (LO.ofD (LD.bi (cr_sum rfl) ok_sum rfl b_sum (by decide +kernel) (LA.cons (LO.ofD (LD.ofF (LF.lc (pt := (.nm 2)) (vs := [2]) rfl sc.nd (LI.own 1 (pv 1)) (blk_mk (N := N_law_is_formula_7ea6) (own := [("layer", 2)]) [] (by decide +kernel) trivial) rfl (by decide) (fun _ _ _ _ _ => (pg_name (i := 2) sc.nd rfl (by first | exact .inl rfl | exact .inr rfl))) (fun _ _ _ _ _ => LT.yes) (fun _ _ _ _ _ => (LD.bi call_lenU ok_len rfl b_len (by decide +kernel) (LA.cons (LO.s 2 (pv 2)) LA.nil)))))) LA.nil))) (LO.ofD LD.int) (nomark _))))) (LSs.one (LS.ret (LF.ofD LD.bl))) LSs.nil)
    (LSs.cons (LS.for (pt := (.nm 2)) PassesOwn.never rfl (LI.seq (LD.var 1 (pv 1))) (pg_name (i := 2) sc.nd rfl (by first | exact .inl rfl | exact .inr rfl)) (LSs.one (LS.for (pt := (.nm 3)) PassesOwn.never rfl (LI.seq (LD.var 2 (pv 2))) (pg_name (i := 3) sc.nd rfl (by first | exact .inl rfl | exact .inr rfl)) (LSs.cons (LS.ite (LT.w (LW.and (LT.val (LD.isi "int" (by simp) rfl b_isinstance rfl b_int (by decide +kernel) (LO.s 3 (pv 3)))) (LW.and1 (LT.cmp op_ge (ok_cI _) (LO.ofD (LD.bi call_abs ok_abs rfl b_abs (by decide +kernel) (LA.cons (LO.s 3 (pv 3)) LA.nil))) (LO.ofD (LD.bin op_powW ok_pow (LO.ofD LD.int) (LO.ofD LD.int))) (nomark _))))) (LSs.one (LS.ret (LF.ofD LD.bl))) LSs.nil)
    (LSs.one (LS.ite (LT.w (LW.and (LT.val (LD.isi "tuple" (by simp) rfl b_isinstance rfl b_tuple (by decide +kernel) (LO.s 3 (pv 3)))) (LW.and (LT.cmp (op_eqU hr.units) ok_eq (LO.ofD (LD.ix (LO.s 3 (pv 3)) (LO.ofD LD.int) (fun _ _ => rfl))) (LO.ofD LD.str) (nomark _)) (LW.and1 (LT.cmp op_gt (ok_cI _) (LO.ofD (LD.ix (LO.s 3 (pv 3)) (LO.ofD LD.int) (fun _ _ => rfl))) (LO.ofD LD.int) (nomark _)))))) (LSs.one (LS.ret (LF.ofD LD.bl))) LSs.nil))))))
    (LSs.one (LS.ret (LF.ofD (LD.cmp op_le (ok_cI _) (LO.ofD (LD.ofF (LF.cal c_law_reach_192f hr hgd rfl (LA.cons (LO.ofD (LD.var 0 (pv 0))) LA.nil)))) (LO.ofD LD.int) (nomark _))))))))) hsp
abbrev st_law_due_08c8 : Stmt := top 42
theorem sc_law_due_08c8 : FnScope N_law_due_08c8 ["text"] (defScope st_law_due_08c8) := ⟨rfl, rfl, rfl, by decide +kernel, rfl, by decide +kernel, by decide +kernel⟩
theorem cal_law_due_08c8 {P : Program} {w : World} {K : PySem.W.Frag} {mg : Str → Option Value} {base : Heap} {k : Nat} (hnd : base.NoDigits) (D : Dn K mg "_law_due" st_law_due_08c8 ["text"]) {S_law_read_076a : FSpec} (c_law_read_076a : Cal P w K mg base k "_law_read" ["text"] S_law_read_076a) {S_law_is_formula_7ea6 : FSpec} (c_law_is_formula_7ea6 : Cal P w K mg base k "_law_is_formula" ["value"] S_law_is_formula_7ea6) {S : FSpec}
    (len : ∀ args Q, S.sp args Q → args.length = 1) (hsp : ∀ args Q, S.sp args Q → ir_law_due_08c8 S_law_read_076a S_law_is_formula_7ea6 (endsOf args Q) (rho0 N_law_due_08c8 args)) : Cal P w K mg base (k + 1) "_law_due" ["text"] S := by
  have sc := sc_law_due_08c8
  exact def_cal D sc len (fun f cdv A outer s H E hr hgd =>
    (LSs.cons (LS.asg (i := 1) sc.nd rfl (by first | exact .inl rfl | exact .inr rfl) (LF.cal c_law_read_076a hr hgd rfl (LA.cons (LO.ofD (LD.var 0 (pv 0))) LA.nil)))
    (LSs.cons (LS.ite (LT.w (LW.and (LT.cmp (op_eqU hr.units) ok_eq (LO.ofD (LD.ix (LO.s 1 (pv 1)) (LO.ofD LD.int) (fun _ _ => rfl))) (LO.ofD LD.str) (nomark _)) (LW.and1 (LT.not (LT.val (LD.ofF (LF.cal c_law_is_formula_7ea6 hr hgd rfl (LA.cons (LO.ofD (LD.ix (LO.s 1 (pv 1)) (LO.ofD LD.int) (fun _ _ => rfl))) LA.nil)))))))) (LSs.one (LS.ret (LF.ofD (LD.tup (LA.cons (LO.ofD LD.str) (LA.cons (LO.ofD (LD.neg (LO.ofD LD.int))) LA.nil)))))) LSs.nil)
    (LSs.one (LS.retV 1 (pv 1)))))) hsp
abbrev st_sign_at : Stmt := top 22
theorem sc_sign_at : FnScope N_sign_at ["reader"] (defScope st_sign_at) := ⟨rfl, rfl, rfl, by decide +kernel, rfl, by decide +kernel, by decide +kernel⟩
theorem cal_sign_at {P : Program} {w : World} {K : PySem.W.Frag} {mg : Str → Option Value} {base : Heap} {k : Nat} (hnd : base.NoDigits) (D : Dn K mg "sign_at" st_sign_at ["reader"]) {C_Reader : Addr} (k_Reader : Cls K C_Reader) (n_Reader_text : NoAttr K C_Reader "text") (n_Reader_at : NoAttr K C_Reader "at") {S : FSpec}
    (len : ∀ args Q, S.sp args Q → args.length = 1) (hsp : ∀ args Q, S.sp args Q → ir_sign_at C_Reader (endsOf args Q) (rho0 N_sign_at args)) : Cal P w K mg base (k + 1) "sign_at" ["reader"] S := by
  have sc := sc_sign_at
  exact def_cal D sc len (fun f cdv A outer s H E hr hgd =>
    (LSs.one (LS.ret (LF.ofD (LD.sl (LO.ofD (LD.fldS k_Reader n_Reader_text (pv 0))) (LP.some (LO.ofD (LD.fldS k_Reader n_Reader_at (pv 0)))) (LP.some (LO.ofD (LD.bin op_addD ok_add (LO.ofD (LD.fldS k_Reader n_Reader_at (pv 0))) (LO.ofD LD.int))))))))) hsp
abbrev st_take_e : Stmt := top 23
theorem sc_take_e : FnScope N_take_e ["reader", "signs"] (defScope st_take_e) := ⟨rfl, rfl, rfl, by decide +kernel, rfl, by decide +kernel, by decide +kernel⟩
theorem cal_take_e {P : Program} {w : World} {K : PySem.W.Frag} {mg : Str → Option Value} {base : Heap} {k : Nat} (hnd : base.NoDigits) (D : Dn K mg "take" st_take_e ["reader", "signs"]) {S_sign_at : FSpec} (c_sign_at : Cal P w K mg base k "sign_at" ["reader"] S_sign_at) {C_BadText : Addr} (m_BadText : mg "BadText" = some (.ref C_BadText)) (x_BadText : ExMk P w K mg base 1 "BadText" C_BadText ["at"]) (hkx : 2 ≤ k) {C_Reader : Addr} (k_Reader : Cls K C_Reader) (n_Reader_at : NoAttr K C_Reader "at") {S : XSpec}
    (len : ∀ args Q E, S.sp args Q E → args.length = 2) (hsp : ∀ args Q E, S.sp args Q E → ir_take_e C_Reader C_BadText S_sign_at (endsX args E) (endsOf args Q) (rho0 N_take_e args)) : CalE P w K mg base (k + 1) "take" ["reader", "signs"] S := by
  have sc := sc_take_e
  exact def_calE D sc len (fun f cdv A outer s H E u hr hgd tk =>
    (LSs.cons (LS.asg (i := 2) sc.nd rfl (by first | exact .inl rfl | exact .inr rfl) (LF.cal c_sign_at hr hgd rfl (LA.cons (LO.s 0 (pv 0)) LA.nil)))
    (LSs.cons (LS.ite (LT.w (LW.or (LT.cmp (op_eqU hr.units) ok_eq (LO.s 2 (pv 2)) (LO.ofD LD.str) (nomark _)) (LW.or1 (LT.cmp op_niU ok_niU (LO.s 2 (pv 2)) (LO.s 1 (pv 1)) rfl)))) (LSs.one (LS.raise rfl tk x_BadText (hr.mono hkx) rfl (LA.cons (LO.ofD (LD.fldS k_Reader n_Reader_at (pv 0))) LA.nil))) LSs.nil)
    (LSs.cons (LS.setF k_Reader n_Reader_at (LD.bin op_addD ok_add (LO.ofD (LD.fldS k_Reader n_Reader_at (pv 0))) (LO.ofD LD.int)) (pv 0))
    (LSs.one (LS.retV 2 (pv 2))))))) hsp
abbrev st_figures_e : Stmt := top 24
theorem sc_figures_e : FnScope N_figures_e ["reader", "signs"] (defScope st_figures_e) := ⟨rfl, rfl, rfl, by decide +kernel, rfl, by decide +kernel, by decide +kernel⟩
theorem cal_figures_e {P : Program} {w : World} {K : PySem.W.Frag} {mg : Str → Option Value} {base : Heap} {k : Nat} (hnd : base.NoDigits) (D : Dn K mg "figures" st_figures_e ["reader", "signs"]) {S_take_e : XSpec} (c_take_e : CalE P w K mg base k "take" ["reader", "signs"] S_take_e) {S_sign_at : FSpec} (c_sign_at : Cal P w K mg base k "sign_at" ["reader"] S_sign_at) {C_Reader : Addr} (k_Reader : Cls K C_Reader) (n_Reader_at : NoAttr K C_Reader "at") (n_Reader_text : NoAttr K C_Reader "text") (b_int : mg "int" = none) (g_FIGURES : Glb K mg "FIGURES" (.str "0123456789")) {S : XSpec}
    (len : ∀ args Q E, S.sp args Q E → args.length = 2) (hsp : ∀ args Q E, S.sp args Q E → ir_figures_e C_Reader S_take_e S_sign_at (endsX args E) (endsOf args Q) (rho0 N_figures_e args)) : CalE P w K mg base (k + 1) "figures" ["reader", "signs"] S := by
  have sc := sc_figures_e
  exact def_calE D sc len (fun f cdv A outer s H E u hr hgd tk =>
    (LSs.cons (LS.asg (i := 2) sc.nd rfl (by first | exact .inl rfl | exact .inr rfl) (LF.ofD (LD.fldS k_Reader n_Reader_at (pv 0))))
    (LSs.cons (LS.ite (LT.cmp (op_neU hr.units) ok_ne (LO.ofD (LD.ofF (LF.calE c_take_e hr hgd tk rfl (LA.cons (LO.s 0 (pv 0)) (LA.cons (LO.ofD (LD.var 1 (pv 1))) LA.nil))))) (LO.ofD LD.str) (nomark _)) (LSs.one (LS.while (passes_of rfl) (LT.w (LW.and (LT.cmp (op_neU hr.units) ok_ne (LO.ofD (LD.ofF (LF.cal c_sign_at hr hgd rfl (LA.cons (LO.s 0 (pv 0)) LA.nil)))) (LO.ofD LD.str) (nomark _)) (LW.and1 (LT.cmp op_in_str ok_inS (LO.ofD (LD.ofF (LF.cal c_sign_at hr hgd rfl (LA.cons (LO.s 0 (pv 0)) LA.nil)))) (LO.ofD (LD.glb g_FIGURES rfl)) rfl)))) (LSs.one (LS.setF k_Reader n_Reader_at (LD.bin op_addD ok_add (LO.ofD (LD.fldS k_Reader n_Reader_at (pv 0))) (LO.ofD LD.int)) (pv 0))))) LSs.nil)
    (LSs.one (LS.ret (LF.ofD (LD.bt (call_int_strL hnd) ok_intL rfl b_int (by decide +kernel) (LA.cons (LO.ofD (LD.sl (LO.ofD (LD.fldS k_Reader n_Reader_text (pv 0))) (LP.some (LO.s 2 (pv 2))) (LP.some (LO.ofD (LD.fldS k_Reader n_Reader_at (pv 0)))))) LA.nil)))))))) hsp
abbrev st_went_up_e : Stmt := top 26
theorem sc_went_up_e : FnScope N_went_up_e ["reader", "lots", "value"] (defScope st_went_up_e) := ⟨rfl, rfl, rfl, by decide +kernel, rfl, by decide +kernel, by decide +kernel⟩
theorem cal_went_up_e {P : Program} {w : World} {K : PySem.W.Frag} {mg : Str → Option Value} {base : Heap} {k : Nat} (hnd : base.NoDigits) (D : Dn K mg "went_up" st_went_up_e ["reader", "lots", "value"]) {S_take_e : XSpec} (c_take_e : CalE P w K mg base k "take" ["reader", "signs"] S_take_e) {S_figures_e : XSpec} (c_figures_e : CalE P w K mg base k "figures" ["reader", "signs"] S_figures_e) (b_list : mg "list" = none) (g_WORDS : KdG K w mg "WORDS" [("+", "add"), ("-", "sub"), ("*", "mul"), ("^", "pow")]) (g_WORDS__L : KdL K w mg "WORDS" ["+", "-", "*", "^"]) (g_FIGURES : Glb K mg "FIGURES" (.str "0123456789")) {S : XSpec}
    (len : ∀ args Q E, S.sp args Q E → args.length = 3) (hsp : ∀ args Q E, S.sp args Q E → ir_went_up_e S_take_e S_figures_e (endsX args E) (endsOf args Q) (rho0 N_went_up_e args)) : CalE P w K mg base (k + 1) "went_up" ["reader", "lots", "value"] S := by
  have sc := sc_went_up_e
  exact def_calE D sc len (fun f cdv A outer s H E u hr hgd tk =>
    (LSs.cons (LS.while (passes_of rfl) (LT.lnNeF hr.units (pv 1) (LF.lst LA.nil)) (LSs.one (LS.ite (LT.lnTopF hr.units (pv 1) (LD.neg (LO.ofD LD.int)) (fun _ _ => rfl) (LF.lst LA.nil)) (LSs.cons (LS.drop (LD.ofF (LF.calE c_take_e hr hgd tk rfl (LA.cons (LO.s 0 (pv 0)) (LA.cons (LO.ofD LD.str) LA.nil)))))
    (LSs.cons (LS.pop2Ln (is := [3, 4]) (pg_unl rfl (pgs_cons (pg_name (i := 3) sc.nd rfl (by first | exact .inl rfl | exact .inr rfl)) (pgs_cons (pg_name (i := 4) sc.nd rfl (by first | exact .inl rfl | exact .inr rfl)) pgs_nil))) (pe_bm0 PySem.F.plainAttrs_list PySem.F.slot_list_pop PySem.F.type_list_pop mt_pop (pv 1)))
    (LSs.one (LS.asg (i := 2) sc.nd rfl (by first | exact .inl rfl | exact .inr rfl) (LF.ofD (LD.tup (LA.cons (LO.ofD (LD.var 4 (pv 4))) (LA.cons (LO.ofD (LD.var 3 (pv 3))) (LA.cons (LO.ofD (LD.var 2 (pv 2))) LA.nil))))))))) (LSs.cons (LS.asg (i := 4) sc.nd rfl (by first | exact .inl rfl | exact .inr rfl) (LF.ofD (LD.kd g_WORDS rfl (LO.ofD (LD.ofF (LF.calE c_take_e hr hgd tk rfl (LA.cons (LO.s 0 (pv 0)) (LA.cons (LO.ofD (LD.lkd (ks := ["+", "-", "*", "^"]) g_WORDS__L rfl rfl b_list rfl)) LA.nil))))) (fun _ _ => rfl))))
    (LSs.cons (LS.ite (LT.cmp (op_neU hr.units) ok_ne (LO.s 4 (pv 4)) (LO.ofD LD.str) (nomark _)) (LSs.cons (LS.extLn rfl (pe_bm PySem.F.plainAttrs_list PySem.F.slot_list_extend PySem.F.type_list_extend mt_extD (pe_ix ix_seq (pv 1) ((LD.neg (LO.ofD LD.int))).p (fun _ _ => rfl)) (pa_cons (pO (LO.ofD (LD.ofF (LF.lst (LA.cons (LO.ofD (LD.var 2 (pv 2))) (LA.cons (LO.ofD (LD.var 4 (pv 4))) LA.nil)))))) pa_nil)))
    (LSs.one (LS.retV 2 (pv 2)))) LSs.nil)
    (LSs.cons (LS.asg (i := 2) sc.nd rfl (by first | exact .inl rfl | exact .inr rfl) (LF.ofD (LD.tup (LA.cons (LO.ofD LD.str) (LA.cons (LO.ofD (LD.var 2 (pv 2))) (LA.cons (LO.ofD (LD.ofF (LF.calE c_figures_e hr hgd tk rfl (LA.cons (LO.s 0 (pv 0)) (LA.cons (LO.ofD (LD.glb g_FIGURES rfl)) LA.nil))))) LA.nil))))))
    (LSs.cons (LS.drop (LD.ofF (LF.calE c_take_e hr hgd tk rfl (LA.cons (LO.s 0 (pv 0)) (LA.cons (LO.ofD LD.str) LA.nil)))))
    (LSs.one (LS.popLn (pe_bm0 PySem.F.plainAttrs_list PySem.F.slot_list_pop PySem.F.type_list_pop mt_pop (pv 1)))))))))))
    (LSs.one (LS.retV 2 (pv 2))))) hsp
abbrev st_leaf_e : Stmt := top 25
theorem sc_leaf_e : FnScope N_leaf_e ["reader"] (defScope st_leaf_e) := ⟨rfl, rfl, rfl, by decide +kernel, rfl, by decide +kernel, by decide +kernel⟩
theorem cal_leaf_e {P : Program} {w : World} {K : PySem.W.Frag} {mg : Str → Option Value} {base : Heap} {k : Nat} (hnd : base.NoDigits) (D : Dn K mg "leaf" st_leaf_e ["reader"]) {S_sign_at : FSpec} (c_sign_at : Cal P w K mg base k "sign_at" ["reader"] S_sign_at) {S_take_e : XSpec} (c_take_e : CalE P w K mg base k "take" ["reader", "signs"] S_take_e) {S_figures_e : XSpec} (c_figures_e : CalE P w K mg base k "figures" ["reader", "signs"] S_figures_e) (g_LETTERS : Glb K mg "LETTERS" (.tuple [.str "x", .str "y"])) (g_FIGURES : Glb K mg "FIGURES" (.str "0123456789")) {S : XSpec}
    (len : ∀ args Q E, S.sp args Q E → args.length = 1) (hsp : ∀ args Q E, S.sp args Q E → ir_leaf_e S_sign_at S_take_e S_figures_e (endsX args E) (endsOf args Q) (rho0 N_leaf_e args)) : CalE P w K mg base (k + 1) "leaf" ["reader"] S := by
  have sc := sc_leaf_e
  exact def_calE D sc len (fun f cdv A outer s H E u hr hgd tk =>
    (LSs.cons (LS.ite (LT.cmp op_in_seq (ok_in false) (LO.ofD (LD.ofF (LF.cal c_sign_at hr hgd rfl (LA.cons (LO.s 0 (pv 0)) LA.nil)))) (LO.ofD (LD.glb g_LETTERS rfl)) rfl) (LSs.one (LS.ret (LF.calE c_take_e hr hgd tk rfl (LA.cons (LO.s 0 (pv 0)) (LA.cons (LO.ofD (LD.glb g_LETTERS rfl)) LA.nil))))) LSs.nil)
    (LSs.cons (LS.ite (LT.cmp (op_eqU hr.units) ok_eq (LO.ofD (LD.ofF (LF.cal c_sign_at hr hgd rfl (LA.cons (LO.s 0 (pv 0)) LA.nil)))) (LO.ofD LD.str) (nomark _)) (LSs.cons (LS.drop (LD.ofF (LF.calE c_take_e hr hgd tk rfl (LA.cons (LO.s 0 (pv 0)) (LA.cons (LO.ofD LD.str) LA.nil)))))
    (LSs.one (LS.ret (LF.ofD (LD.bin op_sub ok_sub (LO.ofD LD.int) (LO.ofD (LD.ofF (LF.calE c_figures_e hr hgd tk rfl (LA.cons (LO.s 0 (pv 0)) (LA.cons (LO.ofD (LD.sl (LO.ofD (LD.glb g_FIGURES rfl)) (LP.some (LO.ofD LD.int)) LP.none)) LA.nil)))))))))) LSs.nil)
    (LSs.one (LS.ret (LF.calE c_figures_e hr hgd tk rfl (LA.cons (LO.s 0 (pv 0)) (LA.cons (LO.ofD (LD.glb g_FIGURES rfl)) LA.nil)))))))) hsp
abbrev st_read_whole_e : Stmt := top 27
theorem sc_read_whole_e : FnScope N_read_whole_e ["reader"] (defScope st_read_whole_e) := ⟨rfl, rfl, rfl, by decide +kernel, rfl, by decide +kernel, by decide +kernel⟩
theorem cal_read_whole_e {P : Program} {w : World} {K : PySem.W.Frag} {mg : Str → Option Value} {base : Heap} {k : Nat} (hnd : base.NoDigits) (D : Dn K mg "read_whole" st_read_whole_e ["reader"]) {S_sign_at : FSpec} (c_sign_at : Cal P w K mg base k "sign_at" ["reader"] S_sign_at) {S_take_e : XSpec} (c_take_e : CalE P w K mg base k "take" ["reader", "signs"] S_take_e) {S_went_up_e : XSpec} (c_went_up_e : CalE P w K mg base k "went_up" ["reader", "lots", "value"] S_went_up_e) {S_leaf_e : XSpec} (c_leaf_e : CalE P w K mg base k "leaf" ["reader"] S_leaf_e) {S : XSpec}
    (len : ∀ args Q E, S.sp args Q E → args.length = 1) (hsp : ∀ args Q E, S.sp args Q E → ir_read_whole_e S_sign_at S_take_e S_went_up_e S_leaf_e (endsX args E) (endsOf args Q) (rho0 N_read_whole_e args)) : CalE P w K mg base (k + 1) "read_whole" ["reader"] S := by
  have sc := sc_read_whole_e
  exact def_calE D sc len (fun f cdv A outer s H E u hr hgd tk =>
    (LSs.cons (LS.asg (i := 1) sc.nd rfl (by first | exact .inl rfl | exact .inr rfl) (LF.ln0 (LF.lst LA.nil)))
    (LSs.one (LS.while (passes_of rfl) (LT.val LD.bl) (LSs.cons (LS.while (passes_of rfl) (LT.cmp (op_eqU hr.units) ok_eq (LO.ofD (LD.ofF (LF.cal c_sign_at hr hgd rfl (LA.cons (LO.s 0 (pv 0)) LA.nil)))) (LO.ofD LD.str) (nomark _)) (LSs.cons (LS.drop (LD.ofF (LF.calE c_take_e hr hgd tk rfl (LA.cons (LO.s 0 (pv 0)) (LA.cons (LO.ofD LD.str) LA.nil)))))
    (LSs.one (LS.appLn (pe_bm PySem.F.plainAttrs_list PySem.F.slot_list_append PySem.F.type_list_append mt_append (pv 1) (pa_cons ((LF.lst LA.nil)).p pa_nil))))))
    (LSs.cons (LS.asg (i := 2) sc.nd rfl (by first | exact .inl rfl | exact .inr rfl) (LF.calE c_went_up_e hr hgd tk rfl (LA.cons (LO.s 0 (pv 0)) (LA.cons (LO.s 1 (pv 1)) (LA.cons (LO.ofD (LD.ofF (LF.calE c_leaf_e hr hgd tk rfl (LA.cons (LO.s 0 (pv 0)) LA.nil)))) LA.nil)))))
    (LSs.one (LS.ite (LT.lnEqF hr.units (pv 1) (LF.lst LA.nil)) (LSs.one (LS.retV 2 (pv 2))) LSs.nil)))))))) hsp
abbrev st_reach : Stmt := top 15
theorem sc_reach : FnScope N_reach ["formula"] (defScope st_reach) := ⟨rfl, rfl, rfl, by decide +kernel, rfl, by decide +kernel, by decide +kernel⟩
theorem cal_reach {P : Program} {w : World} {K : PySem.W.Frag} {mg : Str → Option Value} {base : Heap} {k : Nat} (hnd : base.NoDigits) (D : Dn K mg "reach" st_reach ["formula"]) {S_reach : FSpec} (c_reach : Cal P w K mg base k "reach" ["formula"] S_reach) (b_isinstance : mg "isinstance" = none) (b_tuple : mg "tuple" = none) (b_max : mg "max" = none) {S : FSpec}
    (len : ∀ args Q, S.sp args Q → args.length = 1) (hsp : ∀ args Q, S.sp args Q → ir_reach S_reach (endsOf args Q) (rho0 N_reach args)) : Cal P w K mg base (k + 1) "reach" ["formula"] S := by
  have sc := sc_reach
  exact def_cal D sc len (fun f cdv A outer s H E hr hgd =>
    (LSs.cons (LS.ite (LT.not (LT.val (LD.isi "tuple" (by simp) rfl b_isinstance rfl b_tuple (by decide +kernel) (LO.s 0 (pv 0))))) (LSs.one (LS.ret (LF.ofD LD.int))) LSs.nil)
    (LSs.cons (LS.ite (LT.cmp (op_eqU hr.units) ok_eq (LO.ofD (LD.ix (LO.s 0 (pv 0)) (LO.ofD LD.int) (fun _ _ => rfl))) (LO.ofD LD.str) (nomark _)) (LSs.one (LS.ret (LF.ofD (LD.bi (call_max2 rfl) ok_max2 rfl b_max (by decide +kernel) (LA.cons (LO.ofD LD.int) (LA.cons (LO.ofD (LD.bin op_mulI ok_mul (LO.ofD (LD.ix (LO.s 0 (pv 0)) (LO.ofD LD.int) (fun _ _ => rfl))) (LO.ofD (LD.ofF (LF.cal c_reach hr hgd rfl (LA.cons (LO.ofD (LD.ix (LO.s 0 (pv 0)) (LO.ofD LD.int) (fun _ _ => rfl))) LA.nil)))))) LA.nil)))))) LSs.nil)
    (LSs.cons (LS.par (i := 1) (j := 2) rfl sc.nd rfl rfl (by decide) rfl rfl (LF.cal c_reach hr hgd rfl (LA.cons (LO.ofD (LD.ix (LO.s 0 (pv 0)) (LO.ofD LD.int) (fun _ _ => rfl))) LA.nil)) (LF.cal c_reach hr hgd rfl (LA.cons (LO.ofD (LD.ix (LO.s 0 (pv 0)) (LO.ofD LD.int) (fun _ _ => rfl))) LA.nil)) rfl)
    (LSs.one (LS.ret (LF.ofD (LD.ite (LT.cmp (op_eqU hr.units) ok_eq (LO.ofD (LD.ix (LO.s 0 (pv 0)) (LO.ofD LD.int) (fun _ _ => rfl))) (LO.ofD LD.str) (nomark _)) (LD.bin op_addD ok_add (LO.s 1 (pv 1)) (LO.s 2 (pv 2))) (LD.bi (call_max2 rfl) ok_max2 rfl b_max (by decide +kernel) (LA.cons (LO.s 1 (pv 1)) (LA.cons (LO.s 2 (pv 2)) LA.nil))))))))))) hsp
abbrev st_is_integer : Stmt := top 11
theorem sc_is_integer : FnScope N_is_integer ["value"] (defScope st_is_integer) := ⟨rfl, rfl, rfl, by decide +kernel, rfl, by decide +kernel, by decide +kernel⟩
theorem cal_is_integer {P : Program} {w : World} {K : PySem.W.Frag} {mg : Str → Option Value} {base : Heap} {k : Nat} (hnd : base.NoDigits) (D : Dn K mg "is_integer" st_is_integer ["value"]) (b_isinstance : mg "isinstance" = none) (b_bool : mg "bool" = none) (b_int : mg "int" = none) {S : FSpec}
    (len : ∀ args Q, S.sp args Q → args.length = 1) (hsp : ∀ args Q, S.sp args Q → ir_is_integer (endsOf args Q) (rho0 N_is_integer args)) : Cal P w K mg base (k + 1) "is_integer" ["value"] S := by
  have sc := sc_is_integer
  exact def_cal D sc len (fun f cdv A outer s H E hr hgd =>
    (LSs.one (LS.ret (LF.ofD (LD.and (LD.isi "int" (by simp) rfl b_isinstance rfl b_int (by decide +kernel) (LO.s 0 (pv 0))) (LD.one (LD.not (LD.isi "bool" (by simp) rfl b_isinstance rfl b_bool (by decide +kernel) (LO.s 0 (pv 0)))))))))) hsp
abbrev st_is_leaf : Stmt := top 12
theorem sc_is_leaf : FnScope N_is_leaf ["value"] (defScope st_is_leaf) := ⟨rfl, rfl, rfl, by decide +kernel, rfl, by decide +kernel, by decide +kernel⟩
theorem cal_is_leaf {P : Program} {w : World} {K : PySem.W.Frag} {mg : Str → Option Value} {base : Heap} {k : Nat} (hnd : base.NoDigits) (D : Dn K mg "is_leaf" st_is_leaf ["value"]) {S_is_integer : FSpec} (c_is_integer : Cal P w K mg base k "is_integer" ["value"] S_is_integer) (b_abs : mg "abs" = none) (b_isinstance : mg "isinstance" = none) (b_str : mg "str" = none) (g_MOST_INTEGER : Glb K mg "MOST_INTEGER" (.int 10000000000000000000000000000000000000000)) (g_LETTERS : Glb K mg "LETTERS" (.tuple [.str "x", .str "y"])) {S : FSpec}
    (len : ∀ args Q, S.sp args Q → args.length = 1) (hsp : ∀ args Q, S.sp args Q → ir_is_leaf S_is_integer (endsOf args Q) (rho0 N_is_leaf args)) : Cal P w K mg base (k + 1) "is_leaf" ["value"] S := by
  have sc := sc_is_leaf
  exact def_cal D sc len (fun f cdv A outer s H E hr hgd =>
    (LSs.cons (LS.ite (LT.val (LD.ofF (LF.cal c_is_integer hr hgd rfl (LA.cons (LO.ofD (LD.var 0 (pv 0))) LA.nil)))) (LSs.one (LS.ret (LF.ofD (LD.cmp op_lt (ok_cI _) (LO.ofD (LD.bi call_abs ok_abs rfl b_abs (by decide +kernel) (LA.cons (LO.s 0 (pv 0)) LA.nil))) (LO.ofD (LD.glb g_MOST_INTEGER rfl)) (nomark _))))) LSs.nil)
    (LSs.one (LS.ret (LF.ofD (LD.and (LD.isi "str" (by simp) rfl b_isinstance rfl b_str (by decide +kernel) (LO.s 0 (pv 0))) (LD.one (LD.cmp op_in_seq (ok_in false) (LO.s 0 (pv 0)) (LO.ofD (LD.glb g_LETTERS rfl)) rfl)))))))) hsp
abbrev st_inner : Stmt := top 13
theorem sc_inner : FnScope N_inner ["value"] (defScope st_inner) := ⟨rfl, rfl, rfl, by decide +kernel, rfl, by decide +kernel, by decide +kernel⟩
theorem cal_inner {P : Program} {w : World} {K : PySem.W.Frag} {mg : Str → Option Value} {base : Heap} {k : Nat} (hnd : base.NoDigits) (D : Dn K mg "inner" st_inner ["value"]) {S_is_leaf : FSpec} (c_is_leaf : Cal P w K mg base k "is_leaf" ["value"] S_is_leaf) {S_is_integer : FSpec} (c_is_integer : Cal P w K mg base k "is_integer" ["value"] S_is_integer) (b_isinstance : mg "isinstance" = none) (b_str : mg "str" = none) (b_len : mg "len" = none) (b_tuple : mg "tuple" = none) (g_PAIRS : Glb K mg "PAIRS" (.tuple [.str "add", .str "sub", .str "mul"])) (g_MOST_POWER : Glb K mg "MOST_POWER" (.int 16)) {S : FSpec}
    (len : ∀ args Q, S.sp args Q → args.length = 1) (hsp : ∀ args Q, S.sp args Q → ir_inner S_is_leaf S_is_integer (endsOf args Q) (rho0 N_inner args)) : Cal P w K mg base (k + 1) "inner" ["value"] S := by
  have sc := sc_inner
  exact def_cal D sc len (fun f cdv A outer s H E hr hgd =>
    (LSs.cons (LS.ite (LT.val (LD.ofF (LF.cal c_is_leaf hr hgd rfl (LA.cons (LO.ofD (LD.var 0 (pv 0))) LA.nil)))) (LSs.one (LS.ret (LF.ofD (LD.tup LA.nil)))) LSs.nil)
    (LSs.cons (LS.ite (LT.w (LW.or (LT.not (LT.val (LD.isi "tuple" (by simp) rfl b_isinstance rfl b_tuple (by decide +kernel) (LO.s 0 (pv 0))))) (LW.or (LT.cmp (op_neU hr.units) ok_ne (LO.ofD (LD.bi call_lenU ok_len rfl b_len (by decide +kernel) (LA.cons (LO.s 0 (pv 0)) LA.nil))) (LO.ofD LD.int) (nomark _)) (LW.or1 (LT.not (LT.val (LD.isi "str" (by simp) rfl b_isinstance rfl b_str (by decide +kernel) (LO.ofD (LD.ix (LO.s 0 (pv 0)) (LO.ofD LD.int) (fun _ _ => rfl)))))))))) (LSs.one (LS.ret (LF.ofD LD.non))) LSs.nil)
    (LSs.cons (LS.ite (LT.cmp op_in_seq (ok_in false) (LO.ofD (LD.ix (LO.s 0 (pv 0)) (LO.ofD LD.int) (fun _ _ => rfl))) (LO.ofD (LD.glb g_PAIRS rfl)) rfl) (LSs.one (LS.ret (LF.ofD (LD.sl (LO.s 0 (pv 0)) (LP.some (LO.ofD LD.int)) LP.none)))) LSs.nil)
    (LSs.cons (LS.ite (LT.w (LW.and (LT.cmp (op_eqU hr.units) ok_eq (LO.ofD (LD.ix (LO.s 0 (pv 0)) (LO.ofD LD.int) (fun _ _ => rfl))) (LO.ofD LD.str) (nomark _)) (LW.and (LT.val (LD.ofF (LF.cal c_is_integer hr hgd rfl (LA.cons (LO.ofD (LD.ix (LO.s 0 (pv 0)) (LO.ofD LD.int) (fun _ _ => rfl))) LA.nil)))) (LW.and1 (LT.chain op_le op_le (LO.ofD LD.int) (LO.ofD (LD.ix (LO.s 0 (pv 0)) (LO.ofD LD.int) (fun _ _ => rfl))) (LO.ofD (LD.glb g_MOST_POWER rfl))))))) (LSs.one (LS.ret (LF.ofD (LD.sl (LO.s 0 (pv 0)) (LP.some (LO.ofD LD.int)) (LP.some (LO.ofD LD.int)))))) LSs.nil)
    (LSs.one (LS.ret (LF.ofD LD.non)))))))) hsp
abbrev st_greatest_reach : Stmt := top 16
theorem sc_greatest_reach : FnScope N_greatest_reach ["formula"] (defScope st_greatest_reach) := ⟨rfl, rfl, rfl, by decide +kernel, rfl, by decide +kernel, by decide +kernel⟩
theorem cal_greatest_reach {P : Program} {w : World} {K : PySem.W.Frag} {mg : Str → Option Value} {base : Heap} {k : Nat} (hnd : base.NoDigits) (D : Dn K mg "greatest_reach" st_greatest_reach ["formula"]) {S_reach : FSpec} (c_reach : Cal P w K mg base k "reach" ["formula"] S_reach) {S_inner : FSpec} (c_inner : Cal P w K mg base k "inner" ["value"] S_inner) {S_greatest_reach : FSpec} (c_greatest_reach : Cal P w K mg base k "greatest_reach" ["formula"] S_greatest_reach) (b_max : mg "max" = none) {S : FSpec}
    (len : ∀ args Q, S.sp args Q → args.length = 1) (hsp : ∀ args Q, S.sp args Q → ir_greatest_reach S_reach S_inner S_greatest_reach (endsOf args Q) (rho0 N_greatest_reach args)) : Cal P w K mg base (k + 1) "greatest_reach" ["formula"] S := by
  have sc := sc_greatest_reach
  exact def_cal D sc len (fun f cdv A outer s H E hr hgd =>
    (LSs.one (LS.ret (LF.ofD (LD.bi (cr_max rfl) ok_max1 rfl b_max (by decide +kernel) (LA.cons (LO.ofD (LD.bin op_addD ok_add (LO.ofD (LD.ofF (LF.lst (LA.cons (LO.ofD (LD.ofF (LF.cal c_reach hr hgd rfl (LA.cons (LO.ofD (LD.var 0 (pv 0))) LA.nil)))) LA.nil)))) (LO.ofD (LD.ofF (LF.lc (pt := (.nm 1)) (vs := [1]) rfl sc.nd (LI.seq (LD.ofF (LF.cal c_inner hr hgd rfl (LA.cons (LO.ofD (LD.var 0 (pv 0))) LA.nil)))) (blk_mk (N := N_greatest_reach) (own := [("one", 1)]) [] (by decide +kernel) trivial) rfl (by decide) (fun _ _ _ _ _ => (pg_name (i := 1) sc.nd rfl (by first | exact .inl rfl | exact .inr rfl))) (fun _ _ _ _ _ => LT.yes) (fun _ _ _ _ _ => (LD.ofF (LF.cal c_greatest_reach hr hgd rfl (LA.cons (LO.ofD (LD.var 1 (pv 1))) LA.nil))))))))) LA.nil)))))) hsp
abbrev st_has_form_N : Stmt := top 14
theorem sc_has_form_N : FnScope N_has_form_N ["value"] (defScope st_has_form_N) := ⟨rfl, rfl, rfl, by decide +kernel, rfl, by decide +kernel, by decide +kernel⟩
theorem cal_has_form_N {P : Program} {w : World} {K : PySem.W.Frag} {mg : Str → Option Value} {base : Heap} {k : Nat} (hnd : base.NoDigits) (D : Dn K mg "has_form" st_has_form_N ["value"]) {S_inner : FSpec} (c_inner : Cal P w K mg base k "inner" ["value"] S_inner) (b_range : mg "range" = none) (g_MOST_LEVELS : Glb K mg "MOST_LEVELS" (.int 16)) (g_MOST_PARTS : Glb K mg "MOST_PARTS" (.int 200)) {S : FSpec}
    (len : ∀ args Q, S.sp args Q → args.length = 1) (hsp : ∀ args Q, S.sp args Q → ir_has_form_N S_inner (endsOf args Q) (rho0 N_has_form_N args)) : Cal P w K mg base (k + 1) "has_form" ["value"] S := by
  have sc := sc_has_form_N
  exact def_cal D sc len (fun f cdv A outer s H E hr hgd =>
    (LSs.cons (LS.par (i := 1) (j := 2) rfl sc.nd rfl rfl (by decide) rfl rfl (LF.lst (LA.cons (LO.ofD (LD.var 0 (pv 0))) LA.nil)) (LF.ofD LD.int) rfl)
    (LSs.cons (LS.for (pt := (.nm 3)) PassesOwn.never rfl (LI.range1 rfl b_range (LA.cons (LO.ofD (LD.glb g_MOST_LEVELS rfl)) LA.nil)) (pg_name (i := 3) sc.nd rfl (by first | exact .inl rfl | exact .inr rfl)) (LSs.cons (LS.asg (i := 4) sc.nd rfl (by first | exact .inl rfl | exact .inr rfl) (LF.lst LA.nil))
    (LSs.cons (LS.for (pt := (.nm 5)) PassesOwn.never rfl (LI.seq (LD.var 1 (pv 1))) (pg_name (i := 5) sc.nd rfl (by first | exact .inl rfl | exact .inr rfl)) (LSs.cons (LS.asg (i := 6) sc.nd rfl (by first | exact .inl rfl | exact .inr rfl) (LF.cal c_inner hr hgd rfl (LA.cons (LO.ofD (LD.var 5 (pv 5))) LA.nil)))
    (LSs.cons (LS.asg (i := 2) sc.nd rfl (by first | exact .inl rfl | exact .inr rfl) (LF.ofD (LD.bin op_addD ok_add (LO.s 2 (pv 2)) (LO.ofD LD.int))))
    (LSs.cons (LS.ite (LT.w (LW.or (LT.cmp op_isN ok_isN (LO.s 6 (pv 6)) (LO.ofD LD.non) (nomark _)) (LW.or1 (LT.cmp op_gt (ok_cI _) (LO.s 2 (pv 2)) (LO.ofD (LD.glb g_MOST_PARTS rfl)) (nomark _))))) (LSs.one (LS.ret (LF.ofD LD.bl))) LSs.nil)
    (LSs.one (LS.extT (pe_bm PySem.F.plainAttrs_list PySem.F.slot_list_extend PySem.F.type_list_extend mt_extT (pv 4) (pa_cons (pO (LO.s 6 (pv 6))) pa_nil))))))))
    (LSs.one (LS.asg (i := 1) sc.nd rfl (by first | exact .inl rfl | exact .inr rfl) (LF.ofD (LD.var 4 (pv 4))))))))
    (LSs.one (LS.ret (LF.ofD (LD.cmp (op_eqNil hr.units) (ok_nil false) (LO.s 1 (pv 1)) (LO.ofD (LD.ofF (LF.lst LA.nil))) (nomark _)))))))) hsp
abbrev st_is_formula : Stmt := top 17
theorem sc_is_formula : FnScope N_is_formula ["value"] (defScope st_is_formula) := ⟨rfl, rfl, rfl, by decide +kernel, rfl, by decide +kernel, by decide +kernel⟩
theorem cal_is_formula {P : Program} {w : World} {K : PySem.W.Frag} {mg : Str → Option Value} {base : Heap} {k : Nat} (hnd : base.NoDigits) (D : Dn K mg "is_formula" st_is_formula ["value"]) {S_greatest_reach : FSpec} (c_greatest_reach : Cal P w K mg base k "greatest_reach" ["formula"] S_greatest_reach) {S_has_form_N : FSpec} (c_has_form_N : Cal P w K mg base k "has_form" ["value"] S_has_form_N) (g_MOST_REACH : Glb K mg "MOST_REACH" (.int 16)) {S : FSpec}
    (len : ∀ args Q, S.sp args Q → args.length = 1) (hsp : ∀ args Q, S.sp args Q → ir_is_formula S_greatest_reach S_has_form_N (endsOf args Q) (rho0 N_is_formula args)) : Cal P w K mg base (k + 1) "is_formula" ["value"] S := by
  have sc := sc_is_formula
  exact def_cal D sc len (fun f cdv A outer s H E hr hgd =>
    (LSs.one (LS.ret (LF.ofD (LD.and (LD.ofF (LF.cal c_has_form_N hr hgd rfl (LA.cons (LO.ofD (LD.var 0 (pv 0))) LA.nil))) (LD.one (LD.cmp op_le (ok_cI _) (LO.ofD (LD.ofF (LF.cal c_greatest_reach hr hgd rfl (LA.cons (LO.ofD (LD.var 0 (pv 0))) LA.nil)))) (LO.ofD (LD.glb g_MOST_REACH rfl)) (nomark _)))))))) hsp
abbrev st_m_Reader_init : Stmt := inClass (top 21) 0
theorem sc_m_Reader_init : FnScope N_m_Reader_init ["self", "text"] (defScope st_m_Reader_init) := ⟨rfl, rfl, rfl, by decide +kernel, rfl, by decide +kernel, by decide +kernel⟩
theorem cal_m_Reader_init {P : Program} {w : World} {K : PySem.W.Frag} {mg : Str → Option Value} {base : Heap} {k : Nat} (hnd : base.NoDigits) {R : Addr → Prop} (D : DmX K R "__init__" "Reader.__init__" st_m_Reader_init ["self", "text"] []) {C_Reader : Addr} (k_Reader : Cls K C_Reader) (n_Reader_text : NoAttr K C_Reader "text") (n_Reader_at : NoAttr K C_Reader "at") {S : FSpec}
    (len : ∀ args Q, S.sp args Q → args.length = 2) (hsp : ∀ args Q, S.sp args Q → ir_m_Reader_init C_Reader (endsOf args Q) (rho0 N_m_Reader_init args)) : CalX P w K mg base (k + 1) R ["self", "text"] S [] := by
  have sc := sc_m_Reader_init
  exact def_calX D sc len (fun f cdv A outer s H E hr hgd =>
    (LSs.cons (LS.setF k_Reader n_Reader_text (LD.var 1 (pv 1)) (pv 0))
    (LSs.one (LS.setF k_Reader n_Reader_at LD.int (pv 0))))) hsp
abbrev st_read_formula_e : Stmt := top 28
theorem sc_read_formula_e : FnScope N_read_formula_e ["text"] (defScope st_read_formula_e) := ⟨rfl, rfl, rfl, by decide +kernel, rfl, by decide +kernel, by decide +kernel⟩
theorem cal_read_formula_e {P : Program} {w : World} {K : PySem.W.Frag} {mg : Str → Option Value} {base : Heap} {k : Nat} (hnd : base.NoDigits) (D : Dn K mg "read_formula" st_read_formula_e ["text"]) {S_read_whole_e : XSpec} (c_read_whole_e : CalE P w K mg base k "read_whole" ["reader"] S_read_whole_e) {S_is_formula : FSpec} (c_is_formula : Cal P w K mg base k "is_formula" ["value"] S_is_formula) {C_BadText : Addr} (m_BadText : mg "BadText" = some (.ref C_BadText)) (x_BadText : ExMk P w K mg base 1 "BadText" C_BadText ["at"]) (hkx : 2 ≤ k) {C_Reader : Addr} (k_Reader : Cls K C_Reader) (n_Reader_at : NoAttr K C_Reader "at") (m_Reader : mg "Reader" = some (.ref C_Reader)) {k0 : Nat} (hk0 : k0 + 1 ≤ k) {S_m_Reader_init : FSpec} (c_m_Reader_init : CalX P w K mg base k0 (Mk K C_Reader) ["self", "text"] S_m_Reader_init []) (b_len : mg "len" = none) {S : XSpec}
    (len : ∀ args Q E, S.sp args Q E → args.length = 1) (hsp : ∀ args Q E, S.sp args Q E → ir_read_formula_e C_Reader C_BadText S_read_whole_e S_is_formula S_m_Reader_init (endsX args E) (endsOf args Q) (rho0 N_read_formula_e args)) : CalE P w K mg base (k + 1) "read_formula" ["text"] S := by
  have sc := sc_read_formula_e
  exact def_calE D sc len (fun f cdv A outer s H E u hr hgd tk =>
    (LSs.cons (LS.asg (i := 1) sc.nd rfl (by first | exact .inl rfl | exact .inr rfl) (LF.mkC c_m_Reader_init.toR (hr.mono hk0) hgd rfl m_Reader (LA.cons (LO.ofD (LD.var 0 (pv 0))) LA.nil)))
    (LSs.cons (LS.asg (i := 2) sc.nd rfl (by first | exact .inl rfl | exact .inr rfl) (LF.calE c_read_whole_e hr hgd tk rfl (LA.cons (LO.s 1 (pv 1)) LA.nil)))
    (LSs.cons (LS.ite (LT.cmp op_lt (ok_cI _) (LO.ofD (LD.fldS k_Reader n_Reader_at (pv 1))) (LO.ofD (LD.bi call_lenU ok_len rfl b_len (by decide +kernel) (LA.cons (LO.s 0 (pv 0)) LA.nil))) (nomark _)) (LSs.one (LS.raise rfl tk x_BadText (hr.mono hkx) rfl (LA.cons (LO.ofD (LD.fldS k_Reader n_Reader_at (pv 1))) LA.nil))) LSs.nil)
    (LSs.cons (LS.ite (LT.not (LT.val (LD.ofF (LF.cal c_is_formula hr hgd rfl (LA.cons (LO.ofD (LD.var 2 (pv 2))) LA.nil))))) (LSs.one (LS.raise rfl tk x_BadText (hr.mono hkx) rfl (LA.cons (LO.ofD (LD.neg (LO.ofD LD.int))) LA.nil))) LSs.nil)
    (LSs.one (LS.retV 2 (pv 2)))))))) hsp
abbrev st_law_asked_b98b_e : Stmt := top 43
theorem sc_law_asked_b98b_e : FnScope N_law_asked_b98b_e ["text"] (defScope st_law_asked_b98b_e) := ⟨rfl, rfl, rfl, by decide +kernel, rfl, by decide +kernel, by decide +kernel⟩
theorem cal_law_asked_b98b_e {P : Program} {w : World} {K : PySem.W.Frag} {mg : Str → Option Value} {base : Heap} {k : Nat} (hnd : base.NoDigits) (D : Dn K mg "_law_asked" st_law_asked_b98b_e ["text"]) {S_read_formula_e : XSpec} (c_read_formula_e : CalE P w K mg base k "read_formula" ["text"] S_read_formula_e) {C_HourError : Addr} (m_HourError : mg "HourError" = some (.ref C_HourError)) {C_BadText : Addr} (m_BadText : mg "BadText" = some (.ref C_BadText)) (em_BadText_BadText : PySem.W.exmOne K (.ref C_BadText) (.ref C_BadText) = some true) (xe_BadText : ExcC K C_BadText) (ki_BadText_ValueError : PySem.W.kitOne K (.ref C_BadText) (.type "ValueError") = some true) (ki_BadText_HourError : PySem.W.kitOne K (.ref C_BadText) (.ref C_HourError) = some true) (xf_BadText : XfC K C_BadText) (nx_BadText_at : PySem.W.findIn K (.ref C_BadText) "at" = some none) (b_isinstance : mg "isinstance" = none) (b_ValueError : mg "ValueError" = none) {S : FSpec}
    (len : ∀ args Q, S.sp args Q → args.length = 1) (hsp : ∀ args Q, S.sp args Q → ir_law_asked_b98b_e C_HourError C_BadText S_read_formula_e (endsOf args Q) (rho0 N_law_asked_b98b_e args)) : Cal P w K mg base (k + 1) "_law_asked" ["text"] S := by
  have sc := sc_law_asked_b98b_e
  exact def_cal D sc len (fun f cdv A outer s H E hr hgd =>
    (LSs.one (LS.try_ rfl rfl sc.nd (fun u pn xe tk hp => (LSs.one (LS.ret (LF.ofD (LD.tup (LA.cons (LO.ofD LD.str) (LA.cons (LO.ofD (LD.ofF (LF.calE c_read_formula_e hr hgd tk rfl (LA.cons (LO.ofD (LD.var 0 (pv 0))) LA.nil)))) LA.nil))))))) (.named ⟨rfl, by decide, .inl m_BadText⟩ (by intro p hp; simp only [List.mem_cons, List.not_mem_nil, or_false] at hp; rcases hp with rfl <;> first | exact em_BadText_BadText) rfl rfl (fun a oe C d pn hz hf => (LSs.one (LS.ret (LF.ofD (LD.ite (LT.w (LW.and (LT.val (LD.xi xe_BadText ki_BadText_HourError cv_ref hz hf rfl b_isinstance (pv 1) (pe_gcls rfl m_HourError))) (LW.and1 (LT.val (LD.xi xe_BadText ki_BadText_ValueError cv_ty hz hf rfl b_isinstance (pv 1) (pe_bltn (v := .ty "ValueError") rfl b_ValueError (by decide +kernel) rfl (by decide) (by decide))))))) (LD.tup (LA.cons (LO.ofD LD.str) (LA.cons (LO.ofD (LD.xf xf_BadText nx_BadText_at hz hf (pv 1))) LA.nil))) (LD.tup (LA.cons (LO.ofD LD.str) (LA.cons (LO.ofD LD.int) LA.nil)))))))) .nil)))) hsp
abbrev st_law : Stmt := top 46
theorem sc_law : FnScope N_law ["script"] (defScope st_law) := ⟨rfl, rfl, rfl, by decide +kernel, rfl, by decide +kernel, by decide +kernel⟩
theorem fn_law {P : Program} {w : World} {K : PySem.W.Frag} {mg : Str → Option Value} {base : Heap} {k : Nat} (hnd : base.NoDigits) {fa : Addr} {fd : FuncData} (Fn : Fun K "law" "law" st_law fa fd) {S_law_deck_91e6 : FSpec} (c_law_deck_91e6 : Cal P w K mg base k "_law_deck" ["script"] S_law_deck_91e6) {S_law_tried_1dba : FSpec} (c_law_tried_1dba : Cal P w K mg base k "_law_tried" ["deck"] S_law_tried_1dba) {S_law_due_08c8 : FSpec} (c_law_due_08c8 : Cal P w K mg base k "_law_due" ["text"] S_law_due_08c8) {S_law_asked_b98b_e : FSpec} (c_law_asked_b98b_e : Cal P w K mg base k "_law_asked" ["text"] S_law_asked_b98b_e) (b_range : mg "range" = none) (b_repr : mg "repr" = none) {S : FSpec}
    (len : ∀ args Q, S.sp args Q → args.length = 1) (hsp : ∀ args Q, S.sp args Q → ir_law S_law_deck_91e6 S_law_tried_1dba S_law_due_08c8 S_law_asked_b98b_e (endsOf args Q) (rho0 N_law args)) : FnG P w K mg base CX0 (k + 1) fa fd ["script"] (liftC K S) := by
  have sc := sc_law
  exact def_ok Fn sc len (fun cdv A outer s H E hr hgd =>
    (LSs.cons (LS.asg (i := 1) sc.nd rfl (by first | exact .inl rfl | exact .inr rfl) (LF.cal c_law_deck_91e6 hr hgd rfl (LA.cons (LO.s 0 (pv 0)) LA.nil)))
    (LSs.cons (LS.for (pt := (.nm 2)) PassesOwn.never rfl (LI.range1 rfl b_range (LA.cons (LO.ofD LD.int) LA.nil)) (pg_name (i := 2) sc.nd rfl (by first | exact .inl rfl | exact .inr rfl)) (LSs.one (LS.for (pt := (.nm 3)) PassesOwn.never rfl (LI.seq (LD.ofF (LF.cal c_law_tried_1dba hr hgd rfl (LA.cons (LO.s 1 (pv 1)) LA.nil)))) (pg_name (i := 3) sc.nd rfl (by first | exact .inl rfl | exact .inr rfl)) (LSs.cons (LS.asg (i := 4) sc.nd rfl (by first | exact .inl rfl | exact .inr rfl) (LF.cal c_law_due_08c8 hr hgd rfl (LA.cons (LO.ofD (LD.var 3 (pv 3))) LA.nil)))
    (LSs.one (LS.ite (LT.cmp (op_neU hr.units) ok_ne (LO.ofD (LD.bi (call_repr hr hgd hnd) ok_repr rfl b_repr (by decide +kernel) (LA.cons (LO.ofD (LD.ofF (LF.cal c_law_asked_b98b_e hr hgd rfl (LA.cons (LO.ofD (LD.var 3 (pv 3))) LA.nil)))) LA.nil))) (LO.ofD (LD.bi (call_repr hr hgd hnd) ok_repr rfl b_repr (by decide +kernel) (LA.cons (LO.s 4 (pv 4)) LA.nil))) (nomark _)) (LSs.one (LS.ret (LF.ofD LD.bl))) LSs.nil))))))
    (LSs.one (LS.ret (LF.ofD LD.bl)))))) hsp
theorem all_mk {l : PySem.W.OpenLaw} {w : World} {K : PySem.W.Frag} {h : Heap} {mg : Str → Option Value} {fa f0 f1 f2 f3 f4 f5 f6 f7 f8 f9 f10 f11 f12 f13 f14 f15 f16 f17 f18 f19 f20 f21 f22 f23 f24 f25 f26 f27 f28 f29 f30 f31 : Addr} (X : K.In h) (G : h.Ns mainGlobals mg) (hfa : mg "law" = some (.ref fa))
    {od0 an0 od1 an1 od2 an2 od3 an3 od4 an4 od5 an5 od6 an6 od7 an7 od8 an8 od9 an9 od10 an10 od11 an11 od12 an12 od13 an13 od14 an14 od15 an15 od16 an16 od17 an17 od18 an18 od19 an19 od20 an20 od21 an21 od22 an22 od23 an23 od24 an24 od25 an25 od26 an26 od27 an27 od28 an28 od29 an29 od30 an30 od31 an31 : Option Addr} {sl0 sl1 sl2 sl3 sl4 sl5 sl6 sl7 sl8 sl9 sl10 sl11 sl12 sl13 sl14 sl15 sl16 sl17 sl18 sl19 sl20 sl21 sl22 sl23 sl24 sl25 sl26 sl27 sl28 sl29 sl30 sl31 : Array (Option Value)} {oc0 kV0 dc0 pm0 cd0 ct0 oc1 kV1 dc1 pm1 cd1 ct1 oc2 kV2 dc2 pm2 cd2 ct2 oc3 kV3 dc3 pm3 cd3 ct3 oc4 kV4 dc4 pm4 cd4 ct4 oc5 kV5 dc5 pm5 cd5 ct5 oc6 kV6 dc6 pm6 cd6 ct6 oc7 kV7 dc7 pm7 cd7 ct7 oc8 kV8 dc8 pm8 cd8 ct8 oc9 kV9 dc9 pm9 cd9 ct9 oc10 kV10 dc10 pm10 cd10 ct10 oc11 kV11 dc11 pm11 cd11 ct11 oc12 kV12 dc12 pm12 cd12 ct12 oc13 kV13 dc13 pm13 cd13 ct13 oc14 kV14 dc14 pm14 cd14 ct14 oc15 kV15 dc15 pm15 cd15 ct15 oc16 kV16 dc16 pm16 cd16 ct16 oc17 kV17 dc17 pm17 cd17 ct17 oc18 kV18 dc18 pm18 cd18 ct18 oc19 kV19 dc19 pm19 cd19 ct19 oc20 kV20 dc20 pm20 cd20 ct20 oc21 kV21 dc21 pm21 cd21 ct21 oc22 kV22 dc22 pm22 cd22 ct22 oc23 kV23 dc23 pm23 cd23 ct23 oc24 kV24 dc24 pm24 cd24 ct24 oc25 kV25 dc25 pm25 cd25 ct25 oc26 kV26 dc26 pm26 cd26 ct26 oc27 kV27 dc27 pm27 cd27 ct27 oc28 kV28 dc28 pm28 cd28 ct28 oc29 kV29 dc29 pm29 cd29 ct29 oc30 kV30 dc30 pm30 cd30 ct30 oc31 kV31 dc31 pm31 cd31 ct31 : Value}
    {C_Reader : Addr} (aC_Reader : PySem.W.nsIn K mainGlobals "Reader" = some (some (.ref C_Reader))) (pg_Reader : PySem.W.plainGet K C_Reader Str.empty = true) (hd_Reader : PySem.W.hasDictIn K C_Reader = true) (po_Reader : PySem.W.plainOver K C_Reader = true) (sa_Reader : PySem.W.findIn K (.ref C_Reader) "__setattr__" = some (some (.builtin "object.__setattr__"))) (mk_Reader : PySem.W.makesIn K C_Reader = true) (kc_Reader : PySem.W.keepIn K (.ref C_Reader) = true)
    {C_BadText : Addr} (aC_BadText : PySem.W.nsIn K mainGlobals "BadText" = some (some (.ref C_BadText)))
    {C_HourError : Addr} (aC_HourError : PySem.W.nsIn K mainGlobals "HourError" = some (some (.ref C_HourError)))
    (eC_BadText : PySem.W.subIn K (.ref C_BadText) (.type "BaseException") = some true) (tC_BadText : PySem.W.typeIn K (.ref C_BadText) = some (.type "type")) (hC_BadText : PySem.W.hasDictIn K C_BadText = true)
    (kC_BadText : PySem.W.keepIn K (.ref C_BadText) = true)
    (ga_BadText : PySem.W.findIn K (.ref C_BadText) "__getattribute__" = some (some (.builtin "BaseException.__getattribute__"))) (gg_BadText : PySem.W.findIn K (.ref C_BadText) "__getattr__" = some none)
    (xa_BadText : PySem.W.findIn K (.ref C_BadText) "__class__" = some (some (.builtin "object.__class__"))) (xb_BadText : PySem.W.specialIn K (.builtin "object.__class__") "__get__" = some (some (.builtin "getset_descriptor.__get__"))) (xc_BadText : PySem.W.takesIn K (.builtin "object.__class__") = some true) (xm_BadText : PySem.W.mroIn K C_BadText (.type "object") = some true)
    (sg_HourError : PySem.W.specialIn K (.ref C_HourError) "__getattribute__" = some (some (.builtin "type.__getattribute__"))) (rd_HourError : PySem.W.readsIn K C_HourError (.type "type") = true) (vi_HourError : PySem.W.findCls K (.ref C_HourError) (.type "type") "__init__" = some (.val (.builtin "ValueError.__init__")))
    (nx_BadText_at : PySem.W.findIn K (.ref C_BadText) "at" = some none)
    {nm_BadText q_BadText : Str} {N_BadText : Addr} {bs_BadText : List Value} {sn_BadText : List Str} {su_BadText : List Value} {ab_BadText : Bool} {cl_BadText : Option Bool} {dd_BadText : Option Addr} {m0_BadText m1_BadText m2_BadText m3_BadText m5_BadText : Option Value} {fx_BadText : Addr} {odx_BadText anx_BadText : Option Addr} {slx_BadText : Array (Option Value)} {ocx_BadText kVx_BadText dcx_BadText pmx_BadText cdx_BadText ctx_BadText : Value}
    (xL_BadText : K.lookup C_BadText = some (excClassObj nm_BadText q_BadText C_BadText N_BadText bs_BadText [.ref C_HourError, .type "ValueError", .type "Exception", .type "BaseException", .type "object"] true sn_BadText su_BadText ab_BadText cl_BadText dd_BadText m0_BadText m1_BadText m2_BadText m3_BadText m5_BadText "ValueError.__new__")) (xs_BadText : PySem.W.findIn K (.ref C_BadText) "__setattr__" = some (some (.builtin "object.__setattr__"))) (xi_BadText : PySem.W.findIn K (.ref C_BadText) "__init__" = some (some (.ref fx_BadText))) (xt_BadText : PySem.W.typeIn K (.ref fx_BadText) = some (.type "function"))
    (xl_BadText : K.lookup fx_BadText = some ⟨ocx_BadText, odx_BadText, .func (PySem.W.fnOf "__init__" "BadText.__init__" (defArgs st_x_BadText) (defBody st_x_BadText) (defScope st_x_BadText) .none kVx_BadText dcx_BadText pmx_BadText anx_BadText cdx_BadText ctx_BadText), slx_BadText⟩) (xd_BadText : PySem.W.codeIn K cdx_BadText "BadText.__init__" = true) (xk_BadText : PySem.W.keepIn K (.ref fx_BadText) = true)
    (su_BadText_BadText : PySem.W.subIn K (.ref C_BadText) (.ref C_BadText) = some true)
    (ki_BadText_ValueError : PySem.W.kitOne K (.ref C_BadText) (.type "ValueError") = some true)
    (ki_BadText_HourError : PySem.W.kitOne K (.ref C_BadText) (.ref C_HourError) = some true)
    (nf_Reader_text : PySem.W.findIn K (.ref C_Reader) "text" = some none)
    (nf_Reader_at : PySem.W.findIn K (.ref C_Reader) "at" = some none)
    (a0 : PySem.W.nsIn K mainGlobals "_law_deck" = some (some (.ref f0))) (l0 : K.lookup f0 = some ⟨oc0, od0, .func (PySem.W.fnOf "_law_deck" "_law_deck" (defArgs st_law_deck_91e6) (defBody st_law_deck_91e6) (defScope st_law_deck_91e6) .none kV0 dc0 pm0 an0 cd0 ct0), sl0⟩) (c0 : PySem.W.codeIn K cd0 "_law_deck" = true) (k0 : PySem.W.keepIn K (.ref f0) = true)
    (a1 : PySem.W.nsIn K mainGlobals "_law_written" = some (some (.ref f1))) (l1 : K.lookup f1 = some ⟨oc1, od1, .func (PySem.W.fnOf "_law_written" "_law_written" (defArgs st_law_written_9dd1) (defBody st_law_written_9dd1) (defScope st_law_written_9dd1) .none kV1 dc1 pm1 an1 cd1 ct1), sl1⟩) (c1 : PySem.W.codeIn K cd1 "_law_written" = true) (k1 : PySem.W.keepIn K (.ref f1) = true)
    (a2 : PySem.W.nsIn K mainGlobals "_law_draw" = some (some (.ref f2))) (l2 : K.lookup f2 = some ⟨oc2, od2, .func (PySem.W.fnOf "_law_draw" "_law_draw" (defArgs st_law_draw_a51a) (defBody st_law_draw_a51a) (defScope st_law_draw_a51a) .none kV2 dc2 pm2 an2 cd2 ct2), sl2⟩) (c2 : PySem.W.codeIn K cd2 "_law_draw" = true) (k2 : PySem.W.keepIn K (.ref f2) = true)
    (a3 : PySem.W.nsIn K mainGlobals "_law_one" = some (some (.ref f3))) (l3 : K.lookup f3 = some ⟨oc3, od3, .func (PySem.W.fnOf "_law_one" "_law_one" (defArgs st_law_one_90da) (defBody st_law_one_90da) (defScope st_law_one_90da) .none kV3 dc3 pm3 an3 cd3 ct3), sl3⟩) (c3 : PySem.W.codeIn K cd3 "_law_one" = true) (k3 : PySem.W.keepIn K (.ref f3) = true)
    (a4 : PySem.W.nsIn K mainGlobals "_law_leaf" = some (some (.ref f4))) (l4 : K.lookup f4 = some ⟨oc4, od4, .func (PySem.W.fnOf "_law_leaf" "_law_leaf" (defArgs st_law_leaf_a91b) (defBody st_law_leaf_a91b) (defScope st_law_leaf_a91b) .none kV4 dc4 pm4 an4 cd4 ct4), sl4⟩) (c4 : PySem.W.codeIn K cd4 "_law_leaf" = true) (k4 : PySem.W.keepIn K (.ref f4) = true)
    (a5 : PySem.W.nsIn K mainGlobals "_law_formula" = some (some (.ref f5))) (l5 : K.lookup f5 = some ⟨oc5, od5, .func (PySem.W.fnOf "_law_formula" "_law_formula" (defArgs st_law_formula_6b2b) (defBody st_law_formula_6b2b) (defScope st_law_formula_6b2b) .none kV5 dc5 pm5 an5 cd5 ct5), sl5⟩) (c5 : PySem.W.codeIn K cd5 "_law_formula" = true) (k5 : PySem.W.keepIn K (.ref f5) = true)
    (a6 : PySem.W.nsIn K mainGlobals "_law_long" = some (some (.ref f6))) (l6 : K.lookup f6 = some ⟨oc6, od6, .func (PySem.W.fnOf "_law_long" "_law_long" (defArgs st_law_long_4664) (defBody st_law_long_4664) (defScope st_law_long_4664) .none kV6 dc6 pm6 an6 cd6 ct6), sl6⟩) (c6 : PySem.W.codeIn K cd6 "_law_long" = true) (k6 : PySem.W.keepIn K (.ref f6) = true)
    (a7 : PySem.W.nsIn K mainGlobals "_law_tried" = some (some (.ref f7))) (l7 : K.lookup f7 = some ⟨oc7, od7, .func (PySem.W.fnOf "_law_tried" "_law_tried" (defArgs st_law_tried_1dba) (defBody st_law_tried_1dba) (defScope st_law_tried_1dba) .none kV7 dc7 pm7 an7 cd7 ct7), sl7⟩) (c7 : PySem.W.codeIn K cd7 "_law_tried" = true) (k7 : PySem.W.keepIn K (.ref f7) = true)
    (a8 : PySem.W.nsIn K mainGlobals "_law_figures" = some (some (.ref f8))) (l8 : K.lookup f8 = some ⟨oc8, od8, .func (PySem.W.fnOf "_law_figures" "_law_figures" (defArgs st_law_figures_7a4d) (defBody st_law_figures_7a4d) (defScope st_law_figures_7a4d) .none kV8 dc8 pm8 an8 cd8 ct8), sl8⟩) (c8 : PySem.W.codeIn K cd8 "_law_figures" = true) (k8 : PySem.W.keepIn K (.ref f8) = true)
    (a9 : PySem.W.nsIn K mainGlobals "_law_leaf_at" = some (some (.ref f9))) (l9 : K.lookup f9 = some ⟨oc9, od9, .func (PySem.W.fnOf "_law_leaf_at" "_law_leaf_at" (defArgs st_law_leaf_at_841f) (defBody st_law_leaf_at_841f) (defScope st_law_leaf_at_841f) .none kV9 dc9 pm9 an9 cd9 ct9), sl9⟩) (c9 : PySem.W.codeIn K cd9 "_law_leaf_at" = true) (k9 : PySem.W.keepIn K (.ref f9) = true)
    (a10 : PySem.W.nsIn K mainGlobals "_law_read" = some (some (.ref f10))) (l10 : K.lookup f10 = some ⟨oc10, od10, .func (PySem.W.fnOf "_law_read" "_law_read" (defArgs st_law_read_076a) (defBody st_law_read_076a) (defScope st_law_read_076a) .none kV10 dc10 pm10 an10 cd10 ct10), sl10⟩) (c10 : PySem.W.codeIn K cd10 "_law_read" = true) (k10 : PySem.W.keepIn K (.ref f10) = true)
    (a11 : PySem.W.nsIn K mainGlobals "_law_layers" = some (some (.ref f11))) (l11 : K.lookup f11 = some ⟨oc11, od11, .func (PySem.W.fnOf "_law_layers" "_law_layers" (defArgs st_law_layers_5512) (defBody st_law_layers_5512) (defScope st_law_layers_5512) .none kV11 dc11 pm11 an11 cd11 ct11), sl11⟩) (c11 : PySem.W.codeIn K cd11 "_law_layers" = true) (k11 : PySem.W.keepIn K (.ref f11) = true)
    (a12 : PySem.W.nsIn K mainGlobals "_law_reach" = some (some (.ref f12))) (l12 : K.lookup f12 = some ⟨oc12, od12, .func (PySem.W.fnOf "_law_reach" "_law_reach" (defArgs st_law_reach_192f) (defBody st_law_reach_192f) (defScope st_law_reach_192f) .none kV12 dc12 pm12 an12 cd12 ct12), sl12⟩) (c12 : PySem.W.codeIn K cd12 "_law_reach" = true) (k12 : PySem.W.keepIn K (.ref f12) = true)
    (a13 : PySem.W.nsIn K mainGlobals "_law_is_formula" = some (some (.ref f13))) (l13 : K.lookup f13 = some ⟨oc13, od13, .func (PySem.W.fnOf "_law_is_formula" "_law_is_formula" (defArgs st_law_is_formula_7ea6) (defBody st_law_is_formula_7ea6) (defScope st_law_is_formula_7ea6) .none kV13 dc13 pm13 an13 cd13 ct13), sl13⟩) (c13 : PySem.W.codeIn K cd13 "_law_is_formula" = true) (k13 : PySem.W.keepIn K (.ref f13) = true)
    (a14 : PySem.W.nsIn K mainGlobals "_law_due" = some (some (.ref f14))) (l14 : K.lookup f14 = some ⟨oc14, od14, .func (PySem.W.fnOf "_law_due" "_law_due" (defArgs st_law_due_08c8) (defBody st_law_due_08c8) (defScope st_law_due_08c8) .none kV14 dc14 pm14 an14 cd14 ct14), sl14⟩) (c14 : PySem.W.codeIn K cd14 "_law_due" = true) (k14 : PySem.W.keepIn K (.ref f14) = true)
    (a15 : PySem.W.nsIn K mainGlobals "sign_at" = some (some (.ref f15))) (l15 : K.lookup f15 = some ⟨oc15, od15, .func (PySem.W.fnOf "sign_at" "sign_at" (defArgs st_sign_at) (defBody st_sign_at) (defScope st_sign_at) .none kV15 dc15 pm15 an15 cd15 ct15), sl15⟩) (c15 : PySem.W.codeIn K cd15 "sign_at" = true) (k15 : PySem.W.keepIn K (.ref f15) = true)
    (a16 : PySem.W.nsIn K mainGlobals "take" = some (some (.ref f16))) (l16 : K.lookup f16 = some ⟨oc16, od16, .func (PySem.W.fnOf "take" "take" (defArgs st_take_e) (defBody st_take_e) (defScope st_take_e) .none kV16 dc16 pm16 an16 cd16 ct16), sl16⟩) (c16 : PySem.W.codeIn K cd16 "take" = true) (k16 : PySem.W.keepIn K (.ref f16) = true)
    (a17 : PySem.W.nsIn K mainGlobals "figures" = some (some (.ref f17))) (l17 : K.lookup f17 = some ⟨oc17, od17, .func (PySem.W.fnOf "figures" "figures" (defArgs st_figures_e) (defBody st_figures_e) (defScope st_figures_e) .none kV17 dc17 pm17 an17 cd17 ct17), sl17⟩) (c17 : PySem.W.codeIn K cd17 "figures" = true) (k17 : PySem.W.keepIn K (.ref f17) = true)
    (a18 : PySem.W.nsIn K mainGlobals "went_up" = some (some (.ref f18))) (l18 : K.lookup f18 = some ⟨oc18, od18, .func (PySem.W.fnOf "went_up" "went_up" (defArgs st_went_up_e) (defBody st_went_up_e) (defScope st_went_up_e) .none kV18 dc18 pm18 an18 cd18 ct18), sl18⟩) (c18 : PySem.W.codeIn K cd18 "went_up" = true) (k18 : PySem.W.keepIn K (.ref f18) = true)
    (a19 : PySem.W.nsIn K mainGlobals "leaf" = some (some (.ref f19))) (l19 : K.lookup f19 = some ⟨oc19, od19, .func (PySem.W.fnOf "leaf" "leaf" (defArgs st_leaf_e) (defBody st_leaf_e) (defScope st_leaf_e) .none kV19 dc19 pm19 an19 cd19 ct19), sl19⟩) (c19 : PySem.W.codeIn K cd19 "leaf" = true) (k19 : PySem.W.keepIn K (.ref f19) = true)
    (a20 : PySem.W.nsIn K mainGlobals "read_whole" = some (some (.ref f20))) (l20 : K.lookup f20 = some ⟨oc20, od20, .func (PySem.W.fnOf "read_whole" "read_whole" (defArgs st_read_whole_e) (defBody st_read_whole_e) (defScope st_read_whole_e) .none kV20 dc20 pm20 an20 cd20 ct20), sl20⟩) (c20 : PySem.W.codeIn K cd20 "read_whole" = true) (k20 : PySem.W.keepIn K (.ref f20) = true)
    (a21 : PySem.W.nsIn K mainGlobals "reach" = some (some (.ref f21))) (l21 : K.lookup f21 = some ⟨oc21, od21, .func (PySem.W.fnOf "reach" "reach" (defArgs st_reach) (defBody st_reach) (defScope st_reach) .none kV21 dc21 pm21 an21 cd21 ct21), sl21⟩) (c21 : PySem.W.codeIn K cd21 "reach" = true) (k21 : PySem.W.keepIn K (.ref f21) = true)
    (a22 : PySem.W.nsIn K mainGlobals "is_integer" = some (some (.ref f22))) (l22 : K.lookup f22 = some ⟨oc22, od22, .func (PySem.W.fnOf "is_integer" "is_integer" (defArgs st_is_integer) (defBody st_is_integer) (defScope st_is_integer) .none kV22 dc22 pm22 an22 cd22 ct22), sl22⟩) (c22 : PySem.W.codeIn K cd22 "is_integer" = true) (k22 : PySem.W.keepIn K (.ref f22) = true)
    (a23 : PySem.W.nsIn K mainGlobals "is_leaf" = some (some (.ref f23))) (l23 : K.lookup f23 = some ⟨oc23, od23, .func (PySem.W.fnOf "is_leaf" "is_leaf" (defArgs st_is_leaf) (defBody st_is_leaf) (defScope st_is_leaf) .none kV23 dc23 pm23 an23 cd23 ct23), sl23⟩) (c23 : PySem.W.codeIn K cd23 "is_leaf" = true) (k23 : PySem.W.keepIn K (.ref f23) = true)
    (a24 : PySem.W.nsIn K mainGlobals "inner" = some (some (.ref f24))) (l24 : K.lookup f24 = some ⟨oc24, od24, .func (PySem.W.fnOf "inner" "inner" (defArgs st_inner) (defBody st_inner) (defScope st_inner) .none kV24 dc24 pm24 an24 cd24 ct24), sl24⟩) (c24 : PySem.W.codeIn K cd24 "inner" = true) (k24 : PySem.W.keepIn K (.ref f24) = true)
    (a25 : PySem.W.nsIn K mainGlobals "greatest_reach" = some (some (.ref f25))) (l25 : K.lookup f25 = some ⟨oc25, od25, .func (PySem.W.fnOf "greatest_reach" "greatest_reach" (defArgs st_greatest_reach) (defBody st_greatest_reach) (defScope st_greatest_reach) .none kV25 dc25 pm25 an25 cd25 ct25), sl25⟩) (c25 : PySem.W.codeIn K cd25 "greatest_reach" = true) (k25 : PySem.W.keepIn K (.ref f25) = true)
    (a26 : PySem.W.nsIn K mainGlobals "has_form" = some (some (.ref f26))) (l26 : K.lookup f26 = some ⟨oc26, od26, .func (PySem.W.fnOf "has_form" "has_form" (defArgs st_has_form_N) (defBody st_has_form_N) (defScope st_has_form_N) .none kV26 dc26 pm26 an26 cd26 ct26), sl26⟩) (c26 : PySem.W.codeIn K cd26 "has_form" = true) (k26 : PySem.W.keepIn K (.ref f26) = true)
    (a27 : PySem.W.nsIn K mainGlobals "is_formula" = some (some (.ref f27))) (l27 : K.lookup f27 = some ⟨oc27, od27, .func (PySem.W.fnOf "is_formula" "is_formula" (defArgs st_is_formula) (defBody st_is_formula) (defScope st_is_formula) .none kV27 dc27 pm27 an27 cd27 ct27), sl27⟩) (c27 : PySem.W.codeIn K cd27 "is_formula" = true) (k27 : PySem.W.keepIn K (.ref f27) = true)
    (a28 : PySem.W.findIn K (.ref C_Reader) "__init__" = some (some (.ref f28))) (i28 : PySem.W.isFn K (.ref f28) = true) (l28 : K.lookup f28 = some ⟨oc28, od28, .func (PySem.W.fnOf "__init__" "Reader.__init__" (defArgs st_m_Reader_init) (defBody st_m_Reader_init) (defScope st_m_Reader_init) .none kV28 dc28 pm28 an28 cd28 ct28), sl28⟩) (c28 : PySem.W.codeIn K cd28 "Reader.__init__" = true) (k28 : PySem.W.keepIn K (.ref f28) = true)
    (a29 : PySem.W.nsIn K mainGlobals "read_formula" = some (some (.ref f29))) (l29 : K.lookup f29 = some ⟨oc29, od29, .func (PySem.W.fnOf "read_formula" "read_formula" (defArgs st_read_formula_e) (defBody st_read_formula_e) (defScope st_read_formula_e) .none kV29 dc29 pm29 an29 cd29 ct29), sl29⟩) (c29 : PySem.W.codeIn K cd29 "read_formula" = true) (k29 : PySem.W.keepIn K (.ref f29) = true)
    (a30 : PySem.W.nsIn K mainGlobals "_law_asked" = some (some (.ref f30))) (l30 : K.lookup f30 = some ⟨oc30, od30, .func (PySem.W.fnOf "_law_asked" "_law_asked" (defArgs st_law_asked_b98b_e) (defBody st_law_asked_b98b_e) (defScope st_law_asked_b98b_e) .none kV30 dc30 pm30 an30 cd30 ct30), sl30⟩) (c30 : PySem.W.codeIn K cd30 "_law_asked" = true) (k30 : PySem.W.keepIn K (.ref f30) = true)
    (a31 : PySem.W.nsIn K mainGlobals "law" = some (some (.ref f31))) (l31 : K.lookup f31 = some ⟨oc31, od31, .func (PySem.W.fnOf "law" "law" (defArgs st_law) (defBody st_law) (defScope st_law) .none kV31 dc31 pm31 an31 cd31 ct31), sl31⟩) (c31 : PySem.W.codeIn K cd31 "law" = true) (k31 : PySem.W.keepIn K (.ref f31) = true)
    (z_list : PySem.W.nsIn K mainGlobals "list" = some none)
    (z_isinstance : PySem.W.nsIn K mainGlobals "isinstance" = some none)
    (z_tuple : PySem.W.nsIn K mainGlobals "tuple" = some none)
    (z_str : PySem.W.nsIn K mainGlobals "str" = some none)
    (z_int : PySem.W.nsIn K mainGlobals "int" = some none)
    (z_len : PySem.W.nsIn K mainGlobals "len" = some none)
    (z_abs : PySem.W.nsIn K mainGlobals "abs" = some none)
    (z_max : PySem.W.nsIn K mainGlobals "max" = some none)
    (z_range : PySem.W.nsIn K mainGlobals "range" = some none)
    (z_sum : PySem.W.nsIn K mainGlobals "sum" = some none)
    (z_bool : PySem.W.nsIn K mainGlobals "bool" = some none)
    (z_ValueError : PySem.W.nsIn K mainGlobals "ValueError" = some none)
    (z_repr : PySem.W.nsIn K mainGlobals "repr" = some none)
    {t_FIGURES : Tok} (m_FIGURES : PySem.W.nsIn K mainGlobals "FIGURES" = some (some (.str "0123456789" t_FIGURES)))
    {d_WORDS : Addr} {es_WORDS : Array DictEntry} {n_WORDS : Nat} {t0_WORDS t1_WORDS t2_WORDS t3_WORDS : Tok} (m_WORDS : PySem.W.nsIn K mainGlobals "WORDS" = some (some (.ref d_WORDS))) (l_WORDS : K.lookup d_WORDS = some ⟨.type "dict", none, .dict es_WORDS n_WORDS, #[]⟩) (lit_WORDS : PySem.W.KeysLit w.params es_WORDS.toList) (e0_WORDS : PySem.W.nsIn K d_WORDS "+" = some (some (.str "add" t0_WORDS))) (e1_WORDS : PySem.W.nsIn K d_WORDS "-" = some (some (.str "sub" t1_WORDS))) (e2_WORDS : PySem.W.nsIn K d_WORDS "*" = some (some (.str "mul" t2_WORDS))) (e3_WORDS : PySem.W.nsIn K d_WORDS "^" = some (some (.str "pow" t3_WORDS)))
    {d_WORDS__L : Addr} {es_WORDS__L : Array DictEntry} {n_WORDS__L : Nat} (m_WORDS__L : PySem.W.nsIn K mainGlobals "WORDS" = some (some (.ref d_WORDS__L))) (l_WORDS__L : K.lookup d_WORDS__L = some ⟨.type "dict", none, .dict es_WORDS__L n_WORDS__L, #[]⟩) (lit_WORDS__L : PySem.W.KeysLit w.params es_WORDS__L.toList) (lo_WORDS__L : (d_WORDS__L == sysModules) = false) (ky_WORDS__L : KeysAre es_WORDS__L.toList ["+", "-", "*", "^"])
    {d_LETTERS : Addr} {od_LETTERS : Option Addr} {n_LETTERS : Nat} {sl_LETTERS : Array (Option Value)} {t0_LETTERS t1_LETTERS : Tok} (m_LETTERS : PySem.W.nsIn K mainGlobals "LETTERS" = some (some (.ref d_LETTERS))) (l_LETTERS : K.lookup d_LETTERS = some ⟨.type "tuple", od_LETTERS, .seq #[.str "x" t0_LETTERS, .str "y" t1_LETTERS] n_LETTERS, sl_LETTERS⟩)
    {t_MOST_INTEGER : Tok} (m_MOST_INTEGER : PySem.W.nsIn K mainGlobals "MOST_INTEGER" = some (some (.int (10000000000000000000000000000000000000000) t_MOST_INTEGER)))
    {d_PAIRS : Addr} {od_PAIRS : Option Addr} {n_PAIRS : Nat} {sl_PAIRS : Array (Option Value)} {t0_PAIRS t1_PAIRS t2_PAIRS : Tok} (m_PAIRS : PySem.W.nsIn K mainGlobals "PAIRS" = some (some (.ref d_PAIRS))) (l_PAIRS : K.lookup d_PAIRS = some ⟨.type "tuple", od_PAIRS, .seq #[.str "add" t0_PAIRS, .str "sub" t1_PAIRS, .str "mul" t2_PAIRS] n_PAIRS, sl_PAIRS⟩)
    {t_MOST_POWER : Tok} (m_MOST_POWER : PySem.W.nsIn K mainGlobals "MOST_POWER" = some (some (.int (16) t_MOST_POWER)))
    {t_MOST_LEVELS : Tok} (m_MOST_LEVELS : PySem.W.nsIn K mainGlobals "MOST_LEVELS" = some (some (.int (16) t_MOST_LEVELS)))
    {t_MOST_PARTS : Tok} (m_MOST_PARTS : PySem.W.nsIn K mainGlobals "MOST_PARTS" = some (some (.int (200) t_MOST_PARTS)))
    {t_MOST_REACH : Tok} (m_MOST_REACH : PySem.W.nsIn K mainGlobals "MOST_REACH" = some (some (.int (16) t_MOST_REACH)))
    : ∃ fd : FuncData, (∀ (s : Shared) (v : Value), BindsTo s fd ⟨[v], []⟩ [("script", v)]) ∧ ∀ base : Heap, K.In base → base.Ns mainGlobals mg → base.NoDigits → FnG l.prog w K mg base CX0 105 fa fd ["script"] (liftC K lawS) := by
  have e := hfa.symm.trans (PySem.W.mg_of X G a31)
  cases e
  have k_Reader : Cls K C_Reader := ⟨pg_Reader, hd_Reader, po_Reader, sa_Reader⟩
  have m_Reader := PySem.W.mg_of X G aC_Reader
  have m_BadText := PySem.W.mg_of X G aC_BadText
  have m_HourError := PySem.W.mg_of X G aC_HourError
  have he_HourError : HeC K C_HourError := ⟨sg_HourError, rd_HourError, vi_HourError⟩
  have ox_BadText : OexC K C_BadText := ⟨⟨_, _, _, _, _, _, _, _, _, _, _, _, _, _, _, xL_BadText, by first | rfl | with_unfolding_all rfl | simp [PySem.HandSPX.refsVE]⟩, xs_BadText, eC_BadText, tC_BadText, kC_BadText⟩
  have em_BadText_BadText := PySem.W.exm_ref eC_BadText hC_BadText tC_BadText su_BadText_BadText
  have xe_BadText : ExcC K C_BadText := ⟨ga_BadText, gg_BadText, eC_BadText, hC_BadText, xa_BadText, xb_BadText, xc_BadText, xm_BadText⟩
  have xf_BadText : XfC K C_BadText := ⟨ga_BadText, gg_BadText, eC_BadText, hC_BadText⟩
  have n_Reader_text : NoAttr K C_Reader "text" := nf_Reader_text
  have n_Reader_at : NoAttr K C_Reader "at" := nf_Reader_at
  have F_law_deck_91e6 := fun_mk (st := st_law_deck_91e6) l0 c0 k0
  have D_law_deck_91e6 : Dn K mg "_law_deck" st_law_deck_91e6 ["script"] := ⟨⟨_, _, F_law_deck_91e6, PySem.W.mg_of X G a0, F_law_deck_91e6.binds (ps := ["script"]) fun _ _ _ _ _ _ us hl => match us, hl with | [_], _ => rfl⟩⟩
  have F_law_written_9dd1 := fun_mk (st := st_law_written_9dd1) l1 c1 k1
  have D_law_written_9dd1 : Dn K mg "_law_written" st_law_written_9dd1 ["formula"] := ⟨⟨_, _, F_law_written_9dd1, PySem.W.mg_of X G a1, F_law_written_9dd1.binds (ps := ["formula"]) fun _ _ _ _ _ _ us hl => match us, hl with | [_], _ => rfl⟩⟩
  have F_law_draw_a51a := fun_mk (st := st_law_draw_a51a) l2 c2 k2
  have D_law_draw_a51a : Dn K mg "_law_draw" st_law_draw_a51a ["deck", "many"] := ⟨⟨_, _, F_law_draw_a51a, PySem.W.mg_of X G a2, F_law_draw_a51a.binds (ps := ["deck", "many"]) fun _ _ _ _ _ _ us hl => match us, hl with | [_, _], _ => rfl⟩⟩
  have F_law_one_90da := fun_mk (st := st_law_one_90da) l3 c3 k3
  have D_law_one_90da : Dn K mg "_law_one" st_law_one_90da ["deck", "items"] := ⟨⟨_, _, F_law_one_90da, PySem.W.mg_of X G a3, F_law_one_90da.binds (ps := ["deck", "items"]) fun _ _ _ _ _ _ us hl => match us, hl with | [_, _], _ => rfl⟩⟩
  have F_law_leaf_a91b := fun_mk (st := st_law_leaf_a91b) l4 c4 k4
  have D_law_leaf_a91b : Dn K mg "_law_leaf" st_law_leaf_a91b ["deck", "letters"] := ⟨⟨_, _, F_law_leaf_a91b, PySem.W.mg_of X G a4, F_law_leaf_a91b.binds (ps := ["deck", "letters"]) fun _ _ _ _ _ _ us hl => match us, hl with | [_, _], _ => rfl⟩⟩
  have F_law_formula_6b2b := fun_mk (st := st_law_formula_6b2b) l5 c5 k5
  have D_law_formula_6b2b : Dn K mg "_law_formula" st_law_formula_6b2b ["deck", "letters", "room", "deep"] := ⟨⟨_, _, F_law_formula_6b2b, PySem.W.mg_of X G a5, F_law_formula_6b2b.binds (ps := ["deck", "letters", "room", "deep"]) fun _ _ _ _ _ _ us hl => match us, hl with | [_, _, _, _], _ => rfl⟩⟩
  have F_law_long_4664 := fun_mk (st := st_law_long_4664) l6 c6 k6
  have D_law_long_4664 : Dn K mg "_law_long" st_law_long_4664 ["deck"] := ⟨⟨_, _, F_law_long_4664, PySem.W.mg_of X G a6, F_law_long_4664.binds (ps := ["deck"]) fun _ _ _ _ _ _ us hl => match us, hl with | [_], _ => rfl⟩⟩
  have F_law_tried_1dba := fun_mk (st := st_law_tried_1dba) l7 c7 k7
  have D_law_tried_1dba : Dn K mg "_law_tried" st_law_tried_1dba ["deck"] := ⟨⟨_, _, F_law_tried_1dba, PySem.W.mg_of X G a7, F_law_tried_1dba.binds (ps := ["deck"]) fun _ _ _ _ _ _ us hl => match us, hl with | [_], _ => rfl⟩⟩
  have F_law_figures_7a4d := fun_mk (st := st_law_figures_7a4d) l8 c8 k8
  have D_law_figures_7a4d : Dn K mg "_law_figures" st_law_figures_7a4d ["text", "at"] := ⟨⟨_, _, F_law_figures_7a4d, PySem.W.mg_of X G a8, F_law_figures_7a4d.binds (ps := ["text", "at"]) fun _ _ _ _ _ _ us hl => match us, hl with | [_, _], _ => rfl⟩⟩
  have F_law_leaf_at_841f := fun_mk (st := st_law_leaf_at_841f) l9 c9 k9
  have D_law_leaf_at_841f : Dn K mg "_law_leaf_at" st_law_leaf_at_841f ["text", "at"] := ⟨⟨_, _, F_law_leaf_at_841f, PySem.W.mg_of X G a9, F_law_leaf_at_841f.binds (ps := ["text", "at"]) fun _ _ _ _ _ _ us hl => match us, hl with | [_, _], _ => rfl⟩⟩
  have F_law_read_076a := fun_mk (st := st_law_read_076a) l10 c10 k10
  have D_law_read_076a : Dn K mg "_law_read" st_law_read_076a ["text"] := ⟨⟨_, _, F_law_read_076a, PySem.W.mg_of X G a10, F_law_read_076a.binds (ps := ["text"]) fun _ _ _ _ _ _ us hl => match us, hl with | [_], _ => rfl⟩⟩
  have F_law_layers_5512 := fun_mk (st := st_law_layers_5512) l11 c11 k11
  have D_law_layers_5512 : Dn K mg "_law_layers" st_law_layers_5512 ["value"] := ⟨⟨_, _, F_law_layers_5512, PySem.W.mg_of X G a11, F_law_layers_5512.binds (ps := ["value"]) fun _ _ _ _ _ _ us hl => match us, hl with | [_], _ => rfl⟩⟩
  have F_law_reach_192f := fun_mk (st := st_law_reach_192f) l12 c12 k12
  have D_law_reach_192f : Dn K mg "_law_reach" st_law_reach_192f ["value"] := ⟨⟨_, _, F_law_reach_192f, PySem.W.mg_of X G a12, F_law_reach_192f.binds (ps := ["value"]) fun _ _ _ _ _ _ us hl => match us, hl with | [_], _ => rfl⟩⟩
  have F_law_is_formula_7ea6 := fun_mk (st := st_law_is_formula_7ea6) l13 c13 k13
  have D_law_is_formula_7ea6 : Dn K mg "_law_is_formula" st_law_is_formula_7ea6 ["value"] := ⟨⟨_, _, F_law_is_formula_7ea6, PySem.W.mg_of X G a13, F_law_is_formula_7ea6.binds (ps := ["value"]) fun _ _ _ _ _ _ us hl => match us, hl with | [_], _ => rfl⟩⟩
  have F_law_due_08c8 := fun_mk (st := st_law_due_08c8) l14 c14 k14
  have D_law_due_08c8 : Dn K mg "_law_due" st_law_due_08c8 ["text"] := ⟨⟨_, _, F_law_due_08c8, PySem.W.mg_of X G a14, F_law_due_08c8.binds (ps := ["text"]) fun _ _ _ _ _ _ us hl => match us, hl with | [_], _ => rfl⟩⟩
  have F_sign_at := fun_mk (st := st_sign_at) l15 c15 k15
  have D_sign_at : Dn K mg "sign_at" st_sign_at ["reader"] := ⟨⟨_, _, F_sign_at, PySem.W.mg_of X G a15, F_sign_at.binds (ps := ["reader"]) fun _ _ _ _ _ _ us hl => match us, hl with | [_], _ => rfl⟩⟩
  have F_take_e := fun_mk (st := st_take_e) l16 c16 k16
  have D_take_e : Dn K mg "take" st_take_e ["reader", "signs"] := ⟨⟨_, _, F_take_e, PySem.W.mg_of X G a16, F_take_e.binds (ps := ["reader", "signs"]) fun _ _ _ _ _ _ us hl => match us, hl with | [_, _], _ => rfl⟩⟩
  have F_figures_e := fun_mk (st := st_figures_e) l17 c17 k17
  have D_figures_e : Dn K mg "figures" st_figures_e ["reader", "signs"] := ⟨⟨_, _, F_figures_e, PySem.W.mg_of X G a17, F_figures_e.binds (ps := ["reader", "signs"]) fun _ _ _ _ _ _ us hl => match us, hl with | [_, _], _ => rfl⟩⟩
  have F_went_up_e := fun_mk (st := st_went_up_e) l18 c18 k18
  have D_went_up_e : Dn K mg "went_up" st_went_up_e ["reader", "lots", "value"] := ⟨⟨_, _, F_went_up_e, PySem.W.mg_of X G a18, F_went_up_e.binds (ps := ["reader", "lots", "value"]) fun _ _ _ _ _ _ us hl => match us, hl with | [_, _, _], _ => rfl⟩⟩
  have F_leaf_e := fun_mk (st := st_leaf_e) l19 c19 k19
  have D_leaf_e : Dn K mg "leaf" st_leaf_e ["reader"] := ⟨⟨_, _, F_leaf_e, PySem.W.mg_of X G a19, F_leaf_e.binds (ps := ["reader"]) fun _ _ _ _ _ _ us hl => match us, hl with | [_], _ => rfl⟩⟩
  have F_read_whole_e := fun_mk (st := st_read_whole_e) l20 c20 k20
  have D_read_whole_e : Dn K mg "read_whole" st_read_whole_e ["reader"] := ⟨⟨_, _, F_read_whole_e, PySem.W.mg_of X G a20, F_read_whole_e.binds (ps := ["reader"]) fun _ _ _ _ _ _ us hl => match us, hl with | [_], _ => rfl⟩⟩
  have F_reach := fun_mk (st := st_reach) l21 c21 k21
  have D_reach : Dn K mg "reach" st_reach ["formula"] := ⟨⟨_, _, F_reach, PySem.W.mg_of X G a21, F_reach.binds (ps := ["formula"]) fun _ _ _ _ _ _ us hl => match us, hl with | [_], _ => rfl⟩⟩
  have F_is_integer := fun_mk (st := st_is_integer) l22 c22 k22
  have D_is_integer : Dn K mg "is_integer" st_is_integer ["value"] := ⟨⟨_, _, F_is_integer, PySem.W.mg_of X G a22, F_is_integer.binds (ps := ["value"]) fun _ _ _ _ _ _ us hl => match us, hl with | [_], _ => rfl⟩⟩
  have F_is_leaf := fun_mk (st := st_is_leaf) l23 c23 k23
  have D_is_leaf : Dn K mg "is_leaf" st_is_leaf ["value"] := ⟨⟨_, _, F_is_leaf, PySem.W.mg_of X G a23, F_is_leaf.binds (ps := ["value"]) fun _ _ _ _ _ _ us hl => match us, hl with | [_], _ => rfl⟩⟩
  have F_inner := fun_mk (st := st_inner) l24 c24 k24
  have D_inner : Dn K mg "inner" st_inner ["value"] := ⟨⟨_, _, F_inner, PySem.W.mg_of X G a24, F_inner.binds (ps := ["value"]) fun _ _ _ _ _ _ us hl => match us, hl with | [_], _ => rfl⟩⟩
  have F_greatest_reach := fun_mk (st := st_greatest_reach) l25 c25 k25
  have D_greatest_reach : Dn K mg "greatest_reach" st_greatest_reach ["formula"] := ⟨⟨_, _, F_greatest_reach, PySem.W.mg_of X G a25, F_greatest_reach.binds (ps := ["formula"]) fun _ _ _ _ _ _ us hl => match us, hl with | [_], _ => rfl⟩⟩
  have F_has_form_N := fun_mk (st := st_has_form_N) l26 c26 k26
  have D_has_form_N : Dn K mg "has_form" st_has_form_N ["value"] := ⟨⟨_, _, F_has_form_N, PySem.W.mg_of X G a26, F_has_form_N.binds (ps := ["value"]) fun _ _ _ _ _ _ us hl => match us, hl with | [_], _ => rfl⟩⟩
  have F_is_formula := fun_mk (st := st_is_formula) l27 c27 k27
  have D_is_formula : Dn K mg "is_formula" st_is_formula ["value"] := ⟨⟨_, _, F_is_formula, PySem.W.mg_of X G a27, F_is_formula.binds (ps := ["value"]) fun _ _ _ _ _ _ us hl => match us, hl with | [_], _ => rfl⟩⟩
  have F_m_Reader_init := fun_mk (st := st_m_Reader_init) l28 c28 k28
  have D_m_Reader_init : DmX K (Mk K C_Reader) "__init__" "Reader.__init__" st_m_Reader_init ["self", "text"] [] := ⟨⟨_, _, funX_of F_m_Reader_init, ⟨mk_Reader, a28, i28, kc_Reader⟩, F_m_Reader_init.binds (ps := ["self", "text"]) fun _ _ _ _ _ _ us hl => match us, hl with | [_, _], _ => rfl, [], [], .nil, fun _ => .nil, F_m_Reader_init.binds (ps := ["self", "text"]) fun _ _ _ _ _ _ us hl => match us, hl with | [_, _], _ => rfl⟩⟩
  have F_read_formula_e := fun_mk (st := st_read_formula_e) l29 c29 k29
  have D_read_formula_e : Dn K mg "read_formula" st_read_formula_e ["text"] := ⟨⟨_, _, F_read_formula_e, PySem.W.mg_of X G a29, F_read_formula_e.binds (ps := ["text"]) fun _ _ _ _ _ _ us hl => match us, hl with | [_], _ => rfl⟩⟩
  have F_law_asked_b98b_e := fun_mk (st := st_law_asked_b98b_e) l30 c30 k30
  have D_law_asked_b98b_e : Dn K mg "_law_asked" st_law_asked_b98b_e ["text"] := ⟨⟨_, _, F_law_asked_b98b_e, PySem.W.mg_of X G a30, F_law_asked_b98b_e.binds (ps := ["text"]) fun _ _ _ _ _ _ us hl => match us, hl with | [_], _ => rfl⟩⟩
  have F_law := fun_mk (st := st_law) l31 c31 k31
  have b_list := PySem.W.mg_none_of X G z_list
  have b_isinstance := PySem.W.mg_none_of X G z_isinstance
  have b_tuple := PySem.W.mg_none_of X G z_tuple
  have b_str := PySem.W.mg_none_of X G z_str
  have b_int := PySem.W.mg_none_of X G z_int
  have b_len := PySem.W.mg_none_of X G z_len
  have b_abs := PySem.W.mg_none_of X G z_abs
  have b_max := PySem.W.mg_none_of X G z_max
  have b_range := PySem.W.mg_none_of X G z_range
  have b_sum := PySem.W.mg_none_of X G z_sum
  have b_bool := PySem.W.mg_none_of X G z_bool
  have b_ValueError := PySem.W.mg_none_of X G z_ValueError
  have b_repr := PySem.W.mg_none_of X G z_repr
  have g_FIGURES := (⟨⟨.str "0123456789", .str "0123456789" t_FIGURES, PySem.W.mg_of X G m_FIGURES, ⟨_, rfl⟩, fun F => .str _⟩⟩ : Glb K mg "FIGURES" (.str "0123456789"))
  have g_WORDS := (⟨⟨d_WORDS, PySem.W.mg_of X G m_WORDS, fun z s h => by
    simp only [valS] at h
    split at h
    · rename_i q; subst q; cases h; exact ⟨es_WORDS, n_WORDS, _, l_WORDS, lit_WORDS, e0_WORDS, ⟨_, rfl⟩⟩
    split at h
    · rename_i q; subst q; cases h; exact ⟨es_WORDS, n_WORDS, _, l_WORDS, lit_WORDS, e1_WORDS, ⟨_, rfl⟩⟩
    split at h
    · rename_i q; subst q; cases h; exact ⟨es_WORDS, n_WORDS, _, l_WORDS, lit_WORDS, e2_WORDS, ⟨_, rfl⟩⟩
    split at h
    · rename_i q; subst q; cases h; exact ⟨es_WORDS, n_WORDS, _, l_WORDS, lit_WORDS, e3_WORDS, ⟨_, rfl⟩⟩
    cases h⟩⟩ : KdG K w mg "WORDS" [("+", "add"), ("-", "sub"), ("*", "mul"), ("^", "pow")])
  have g_WORDS__L := (⟨⟨d_WORDS__L, es_WORDS__L, n_WORDS__L, PySem.W.mg_of X G m_WORDS__L, l_WORDS__L, lit_WORDS__L, lo_WORDS__L, ky_WORDS__L⟩, by decide, by decide⟩ : KdL K w mg "WORDS" ["+", "-", "*", "^"])
  have g_LETTERS := (⟨⟨.ref d_LETTERS, .ref d_LETTERS, PySem.W.mg_of X G m_LETTERS, rfl, fun F => .tup (xs := [V.str "x", V.str "y"]) (.inr ⟨_, _, _, l_LETTERS, rfl, rfl, by show 2 ≤ sizeLine; rw [sizeLine_eq]; decide, (.cons ⟨_, rfl⟩ (.cons ⟨_, rfl⟩ .nil))⟩) (.cons (.str _) (.cons (.str _) .nil))⟩⟩ : Glb K mg "LETTERS" (.tuple [.str "x", .str "y"]))
  have g_MOST_INTEGER := (⟨⟨.int (10000000000000000000000000000000000000000), .int (10000000000000000000000000000000000000000) t_MOST_INTEGER, PySem.W.mg_of X G m_MOST_INTEGER, ⟨_, rfl⟩, fun F => .int _⟩⟩ : Glb K mg "MOST_INTEGER" (.int 10000000000000000000000000000000000000000))
  have g_PAIRS := (⟨⟨.ref d_PAIRS, .ref d_PAIRS, PySem.W.mg_of X G m_PAIRS, rfl, fun F => .tup (xs := [V.str "add", V.str "sub", V.str "mul"]) (.inr ⟨_, _, _, l_PAIRS, rfl, rfl, by show 3 ≤ sizeLine; rw [sizeLine_eq]; decide, (.cons ⟨_, rfl⟩ (.cons ⟨_, rfl⟩ (.cons ⟨_, rfl⟩ .nil)))⟩) (.cons (.str _) (.cons (.str _) (.cons (.str _) .nil)))⟩⟩ : Glb K mg "PAIRS" (.tuple [.str "add", .str "sub", .str "mul"]))
  have g_MOST_POWER := (⟨⟨.int (16), .int (16) t_MOST_POWER, PySem.W.mg_of X G m_MOST_POWER, ⟨_, rfl⟩, fun F => .int _⟩⟩ : Glb K mg "MOST_POWER" (.int 16))
  have g_MOST_LEVELS := (⟨⟨.int (16), .int (16) t_MOST_LEVELS, PySem.W.mg_of X G m_MOST_LEVELS, ⟨_, rfl⟩, fun F => .int _⟩⟩ : Glb K mg "MOST_LEVELS" (.int 16))
  have g_MOST_PARTS := (⟨⟨.int (200), .int (200) t_MOST_PARTS, PySem.W.mg_of X G m_MOST_PARTS, ⟨_, rfl⟩, fun F => .int _⟩⟩ : Glb K mg "MOST_PARTS" (.int 200))
  have g_MOST_REACH := (⟨⟨.int (16), .int (16) t_MOST_REACH, PySem.W.mg_of X G m_MOST_REACH, ⟨_, rfl⟩, fun F => .int _⟩⟩ : Glb K mg "MOST_REACH" (.int 16))
  have Fx_BadText := fun_mk (st := st_x_BadText) xl_BadText xd_BadText xk_BadText
  refine ⟨PySem.W.fnOf "law" "law" (defArgs st_law) (defBody st_law) (defScope st_law) .none kV31 dc31 pm31 an31 cd31 ct31, fun s v => .of_eq rfl, fun base _ _ hnd => ?_⟩
  have x_BadText : ExMk l.prog w K mg base 1 "BadText" C_BadText ["at"] := mk_x_BadText Fx_BadText m_HourError he_HourError ox_BadText nx_BadText_at xi_BadText xt_BadText m_BadText (Fx_BadText.binds (ps := ["self", "at"]) fun _ _ _ _ _ _ us hl => match us, hl with | [_, _], _ => rfl)
  have c_law_deck_91e6 : Cal l.prog w K mg base 1 "_law_deck" ["script"] S_deck := cal_law_deck_91e6 (k := 0) hnd D_law_deck_91e6 b_list (by rintro args Q ⟨_, rfl, _⟩; rfl) (sp_deck)
  have c_law_written_9dd1 : ∀ d, Cal l.prog w K mg base (d + 1) "_law_written" ["formula"] (S_text d) := fun d => by
    induction d with
    | zero => exact Cal.vac D_law_written_9dd1 S_text0
    | succ d ih => exact cal_law_written_9dd1 (k := d + 1) hnd D_law_written_9dd1 ih b_isinstance b_tuple b_str (by rintro args Q ⟨_, rfl, _⟩; rfl) (sp_written d)
  have c_law_draw_a51a : Cal l.prog w K mg base 1 "_law_draw" ["deck", "many"] S_draw := cal_law_draw_a51a (k := 0) hnd D_law_draw_a51a b_int b_len b_abs (by rintro args Q ⟨_, _, _, rfl, _⟩; rfl) (sp_draw)
  have c_law_one_90da : Cal l.prog w K mg base 2 "_law_one" ["deck", "items"] S_one := cal_law_one_90da (k := 1) hnd D_law_one_90da (c_law_draw_a51a.mono (by first | decide | omega)) b_len (by rintro args Q ⟨_, _, _, rfl, _⟩; rfl) (sp_one)
  have c_law_leaf_a91b : Cal l.prog w K mg base 3 "_law_leaf" ["deck", "letters"] S_leafB := cal_law_leaf_a91b (k := 2) hnd D_law_leaf_a91b (c_law_draw_a51a.mono (by first | decide | omega)) (c_law_one_90da.mono (by first | decide | omega)) (by rintro args Q ⟨_, _, _, _, rfl, _⟩; rfl) (sp_leafB)
  have c_law_formula_6b2b : ∀ d, Cal l.prog w K mg base (d + 3) "_law_formula" ["deck", "letters", "room", "deep"] (S_formulaB d) := fun d => by
    induction d with
    | zero => exact Cal.vac D_law_formula_6b2b S_formulaB0
    | succ d ih => exact cal_law_formula_6b2b (k := d + 3) hnd D_law_formula_6b2b (c_law_draw_a51a.mono (by first | decide | omega)) (c_law_leaf_a91b.mono (by first | decide | omega)) ih b_max (by rintro args Q ⟨_, _, _, _, _, _, rfl, _⟩; rfl) (sp_formulaB d)
  have c_law_long_4664 : Cal l.prog w K mg base 3 "_law_long" ["deck"] S_long := cal_law_long_4664 (k := 2) hnd D_law_long_4664 (c_law_draw_a51a.mono (by first | decide | omega)) (c_law_one_90da.mono (by first | decide | omega)) (by rintro args Q ⟨_, _, rfl, _⟩; rfl) (sp_long)
  have c_law_tried_1dba : Cal l.prog w K mg base 26 "_law_tried" ["deck"] S_tried := cal_law_tried_1dba (k := 25) hnd D_law_tried_1dba ((c_law_written_9dd1 24).mono (by first | decide | omega)) ((c_law_formula_6b2b 5).mono (by first | decide | omega)) (c_law_one_90da.mono (by first | decide | omega)) (c_law_draw_a51a.mono (by first | decide | omega)) (c_law_long_4664.mono (by first | decide | omega)) b_range b_len b_list (by rintro args Q ⟨_, _, rfl, _⟩; rfl) (sp_tried)
  have c_law_figures_7a4d : Cal l.prog w K mg base 1 "_law_figures" ["text", "at"] S_lfig := cal_law_figures_7a4d (k := 0) hnd D_law_figures_7a4d (by rintro args Q ⟨_, _, rfl, _⟩; rfl) (sp_lfig)
  have c_law_leaf_at_841f : Cal l.prog w K mg base 2 "_law_leaf_at" ["text", "at"] S_lleaf := cal_law_leaf_at_841f (k := 1) hnd D_law_leaf_at_841f (c_law_figures_7a4d.mono (by first | decide | omega)) b_int (by rintro args Q ⟨_, _, rfl, _⟩; rfl) (sp_lleaf)
  have c_law_read_076a : Cal l.prog w K mg base 3 "_law_read" ["text"] S_lread := cal_law_read_076a (k := 2) hnd D_law_read_076a (c_law_leaf_at_841f.mono (by first | decide | omega)) (c_law_figures_7a4d.mono (by first | decide | omega)) b_int b_len (by rintro args Q ⟨_, _, rfl, _⟩; rfl) (sp_lread)
  have c_law_layers_5512 : Cal l.prog w K mg base 1 "_law_layers" ["value"] S_layers := cal_law_layers_5512 (k := 0) hnd D_law_layers_5512 b_isinstance b_tuple (by rintro args Q ⟨_, rfl, _⟩; rfl) (sp_layers)
  have c_law_reach_192f : ∀ d, Cal l.prog w K mg base (d + 1) "_law_reach" ["value"] (S_lreach d) := fun d => by
    induction d with
    | zero => exact Cal.vac D_law_reach_192f S_lreach0
    | succ d ih => exact cal_law_reach_192f (k := d + 1) hnd D_law_reach_192f ih b_isinstance b_tuple b_max b_int (by rintro args Q ⟨_, rfl, _⟩; rfl) (sp_lreach d)
  have c_law_is_formula_7ea6 : Cal l.prog w K mg base 18 "_law_is_formula" ["value"] S_lisf := cal_law_is_formula_7ea6 (k := 17) hnd D_law_is_formula_7ea6 (c_law_layers_5512.mono (by first | decide | omega)) ((c_law_reach_192f 16).mono (by first | decide | omega)) b_sum b_len b_abs b_isinstance b_int b_tuple (by rintro args Q ⟨_, rfl, _⟩; rfl) (sp_lisf)
  have c_law_due_08c8 : Cal l.prog w K mg base 19 "_law_due" ["text"] S_due := cal_law_due_08c8 (k := 18) hnd D_law_due_08c8 (c_law_read_076a.mono (by first | decide | omega)) (c_law_is_formula_7ea6.mono (by first | decide | omega)) (by rintro args Q ⟨_, _, rfl, _⟩; rfl) (sp_due)
  have c_sign_at : Cal l.prog w K mg base 1 "sign_at" ["reader"] (S_sgat C_Reader) := cal_sign_at (k := 0) hnd D_sign_at k_Reader n_Reader_text n_Reader_at (by rintro args Q ⟨_, _, rfl, _⟩; rfl) (sp_sgat C_Reader)
  have c_take_e : CalE l.prog w K mg base 3 "take" ["reader", "signs"] (S_takeX C_Reader C_BadText) := cal_take_e (k := 2) hnd D_take_e (c_sign_at.mono (by first | decide | omega)) m_BadText x_BadText (by first | decide | omega) k_Reader n_Reader_at (by rintro args Q E ⟨_, _, _, _, rfl, _⟩; rfl) (sp_takeX C_Reader C_BadText)
  have c_figures_e : CalE l.prog w K mg base 4 "figures" ["reader", "signs"] (S_figX C_Reader C_BadText) := cal_figures_e (k := 3) hnd D_figures_e (c_take_e.mono (by first | decide | omega)) (c_sign_at.mono (by first | decide | omega)) k_Reader n_Reader_at n_Reader_text b_int g_FIGURES (by rintro args Q E ⟨_, _, _, _, rfl, _⟩; rfl) (sp_figX C_Reader C_BadText)
  have c_went_up_e : CalE l.prog w K mg base 5 "went_up" ["reader", "lots", "value"] (S_upX C_Reader C_BadText) := cal_went_up_e (k := 4) hnd D_went_up_e (c_take_e.mono (by first | decide | omega)) (c_figures_e.mono (by first | decide | omega)) b_list g_WORDS g_WORDS__L g_FIGURES (by rintro args Q E ⟨_, _, _, _, _, rfl, _⟩; rfl) (sp_upX C_Reader C_BadText)
  have c_leaf_e : CalE l.prog w K mg base 5 "leaf" ["reader"] (S_leafX C_Reader C_BadText) := cal_leaf_e (k := 4) hnd D_leaf_e (c_sign_at.mono (by first | decide | omega)) (c_take_e.mono (by first | decide | omega)) (c_figures_e.mono (by first | decide | omega)) g_LETTERS g_FIGURES (by rintro args Q E ⟨_, _, rfl, _⟩; rfl) (sp_leafX C_Reader C_BadText)
  have c_read_whole_e : CalE l.prog w K mg base 6 "read_whole" ["reader"] (S_wholeX C_Reader C_BadText) := cal_read_whole_e (k := 5) hnd D_read_whole_e (c_sign_at.mono (by first | decide | omega)) (c_take_e.mono (by first | decide | omega)) (c_went_up_e.mono (by first | decide | omega)) (c_leaf_e.mono (by first | decide | omega)) (by rintro args Q E ⟨_, _, rfl, _⟩; rfl) (sp_wholeX C_Reader C_BadText)
  have c_reach : ∀ d, Cal l.prog w K mg base (d + 1) "reach" ["formula"] (S_reachW d) := fun d => by
    induction d with
    | zero => exact Cal.vac D_reach S_reachW0
    | succ d ih => exact cal_reach (k := d + 1) hnd D_reach ih b_isinstance b_tuple b_max (by rintro args Q ⟨_, rfl, _⟩; rfl) (sp_reachW d)
  have c_is_integer : Cal l.prog w K mg base 1 "is_integer" ["value"] S_isint := cal_is_integer (k := 0) hnd D_is_integer b_isinstance b_bool b_int (by rintro args Q ⟨_, rfl, _⟩; rfl) (sp_isint)
  have c_is_leaf : Cal l.prog w K mg base 2 "is_leaf" ["value"] S_isleaf := cal_is_leaf (k := 1) hnd D_is_leaf (c_is_integer.mono (by first | decide | omega)) b_abs b_isinstance b_str g_MOST_INTEGER g_LETTERS (by rintro args Q ⟨_, rfl, _⟩; rfl) (sp_isleaf)
  have c_inner : Cal l.prog w K mg base 3 "inner" ["value"] S_inner := cal_inner (k := 2) hnd D_inner (c_is_leaf.mono (by first | decide | omega)) (c_is_integer.mono (by first | decide | omega)) b_isinstance b_str b_len b_tuple g_PAIRS g_MOST_POWER (by rintro args Q ⟨_, rfl, _⟩; rfl) (sp_inner)
  have c_greatest_reach : ∀ d, Cal l.prog w K mg base (d + 51) "greatest_reach" ["formula"] (S_greatW d) := fun d => by
    induction d with
    | zero => exact Cal.vac D_greatest_reach S_greatW0
    | succ d ih => exact cal_greatest_reach (k := d + 51) hnd D_greatest_reach ((c_reach 50).mono (by first | decide | omega)) (c_inner.mono (by first | decide | omega)) ih b_max (by rintro args Q ⟨_, rfl, _⟩; rfl) (sp_greatW d)
  have c_has_form_N : Cal l.prog w K mg base 4 "has_form" ["value"] S_hasformN := cal_has_form_N (k := 3) hnd D_has_form_N (c_inner.mono (by first | decide | omega)) b_range g_MOST_LEVELS g_MOST_PARTS (by rintro args Q ⟨_, rfl, _⟩; rfl) (sp_hasformN)
  have c_is_formula : Cal l.prog w K mg base 102 "is_formula" ["value"] S_isform2 := cal_is_formula (k := 101) hnd D_is_formula ((c_greatest_reach 50).mono (by first | decide | omega)) (c_has_form_N.mono (by first | decide | omega)) g_MOST_REACH (by rintro args Q ⟨_, rfl, _⟩; rfl) (sp_isform2)
  have c_m_Reader_init : CalX l.prog w K mg base 1 (Mk K C_Reader) ["self", "text"] (S_rinit C_Reader) [] := cal_m_Reader_init (k := 0) hnd D_m_Reader_init k_Reader n_Reader_text n_Reader_at (by rintro args Q ⟨_, rfl, _⟩; rfl) (sp_rinit C_Reader)
  have c_read_formula_e : CalE l.prog w K mg base 103 "read_formula" ["text"] (S_readX C_BadText) := cal_read_formula_e (k := 102) hnd D_read_formula_e (c_read_whole_e.mono (by first | decide | omega)) (c_is_formula.mono (by first | decide | omega)) m_BadText x_BadText (by first | decide | omega) k_Reader n_Reader_at m_Reader (k0 := 1) (by first | decide | omega) c_m_Reader_init b_len (by rintro args Q E ⟨_, _, rfl, _⟩; rfl) (sp_readX C_Reader C_BadText)
  have c_law_asked_b98b_e : Cal l.prog w K mg base 104 "_law_asked" ["text"] S_asked := cal_law_asked_b98b_e (k := 103) hnd D_law_asked_b98b_e (c_read_formula_e.mono (by first | decide | omega)) m_HourError m_BadText em_BadText_BadText xe_BadText ki_BadText_ValueError ki_BadText_HourError xf_BadText nx_BadText_at b_isinstance b_ValueError (by rintro args Q ⟨_, _, rfl, _⟩; rfl) (sp_asked C_HourError C_BadText)
  exact fn_law (k := 104) hnd F_law (c_law_deck_91e6.mono (by first | decide | omega)) (c_law_tried_1dba.mono (by first | decide | omega)) (c_law_due_08c8.mono (by first | decide | omega)) (c_law_asked_b98b_e.mono (by first | decide | omega)) b_range b_repr (by rintro args Q ⟨_, rfl, _⟩; rfl) (sp_law)
end DL
open PySem PySem.W PyProof.Rows
set_option maxRecDepth 100000 in
set_option maxHeartbeats 0 in
theorem PySem.Challenge.cw_hourforms_k63_texts_cut_long_and_deep_holds : PySem.Challenge.rw_hourforms_k63_texts_cut_long_and_deep.Holds := by
  w_on; o_law; k_head; (case hw => w_witness2)
  k_fill
  refine DL.walkG (l := PySem.Challenge.rw_hourforms_k63_texts_cut_long_and_deep) (x := "script") (k := 105) rfl rfl ⟨rfl, by decide, by decide⟩ (fun w h Y => PySem.W.kIn_of Y) ?F
  case F =>
    intro w mg fa h KX G hmg
    refine' DL.all_mk KX G hmg ?aC_Reader ?pg_Reader ?hd_Reader ?po_Reader ?sa_Reader ?mk_Reader ?kc_Reader ?aC_BadText ?aC_HourError ?eC_BadText ?tC_BadText ?hC_BadText ?kC_BadText ?ga_BadText ?gg_BadText ?xa_BadText ?xb_BadText ?xc_BadText ?xm_BadText ?sg_HourError ?rd_HourError ?vi_HourError ?nx_BadText_at ?xL_BadText ?xs_BadText ?xi_BadText ?xt_BadText ?xl_BadText ?xd_BadText ?xk_BadText ?su_BadText_BadText ?ki_BadText_ValueError ?ki_BadText_HourError ?nf_Reader_text ?nf_Reader_at ?a0 ?l0 ?c0 ?k0 ?a1 ?l1 ?c1 ?k1 ?a2 ?l2 ?c2 ?k2 ?a3 ?l3 ?c3 ?k3 ?a4 ?l4 ?c4 ?k4 ?a5 ?l5 ?c5 ?k5 ?a6 ?l6 ?c6 ?k6 ?a7 ?l7 ?c7 ?k7 ?a8 ?l8 ?c8 ?k8 ?a9 ?l9 ?c9 ?k9 ?a10 ?l10 ?c10 ?k10 ?a11 ?l11 ?c11 ?k11 ?a12 ?l12 ?c12 ?k12 ?a13 ?l13 ?c13 ?k13 ?a14 ?l14 ?c14 ?k14 ?a15 ?l15 ?c15 ?k15 ?a16 ?l16 ?c16 ?k16 ?a17 ?l17 ?c17 ?k17 ?a18 ?l18 ?c18 ?k18 ?a19 ?l19 ?c19 ?k19 ?a20 ?l20 ?c20 ?k20 ?a21 ?l21 ?c21 ?k21 ?a22 ?l22 ?c22 ?k22 ?a23 ?l23 ?c23 ?k23 ?a24 ?l24 ?c24 ?k24 ?a25 ?l25 ?c25 ?k25 ?a26 ?l26 ?c26 ?k26 ?a27 ?l27 ?c27 ?k27 ?a28 ?i28 ?l28 ?c28 ?k28 ?a29 ?l29 ?c29 ?k29 ?a30 ?l30 ?c30 ?k30 ?a31 ?l31 ?c31 ?k31 ?z_list ?z_isinstance ?z_tuple ?z_str ?z_int ?z_len ?z_abs ?z_max ?z_range ?z_sum ?z_bool ?z_ValueError ?z_repr ?m_FIGURES ?m_WORDS ?l_WORDS ?lit_WORDS ?e0_WORDS ?e1_WORDS ?e2_WORDS ?e3_WORDS ?m_WORDS__L ?l_WORDS__L ?lit_WORDS__L ?lo_WORDS__L ?ky_WORDS__L ?m_LETTERS ?l_LETTERS ?m_MOST_INTEGER ?m_PAIRS ?l_PAIRS ?m_MOST_POWER ?m_MOST_LEVELS ?m_MOST_PARTS ?m_MOST_REACH
    (case aC_Reader => k_is)
    (case pg_Reader => k_is)
    (case hd_Reader => k_is)
    (case po_Reader => k_is)
    (case sa_Reader => k_is)
    (case mk_Reader => k_is)
    (case kc_Reader => k_is)
    (case aC_BadText => k_is)
    (case aC_HourError => k_is)
    (case eC_BadText => k_is)
    (case tC_BadText => k_is)
    (case hC_BadText => k_is)
    (case kC_BadText => k_is)
    (case ga_BadText => k_is)
    (case gg_BadText => k_is)
    (case xa_BadText => k_is)
    (case xb_BadText => k_is)
    (case xc_BadText => k_is)
    (case xm_BadText => k_is)
    (case sg_HourError => k_is)
    (case rd_HourError => k_is)
    (case vi_HourError => k_is)
    (case nx_BadText_at => k_is)
    (case xL_BadText => k_is)
    (case xs_BadText => k_is)
    (case xi_BadText => k_is)
    (case xt_BadText => k_is)
    (case xl_BadText => k_is)
    (case xd_BadText => k_is)
    (case xk_BadText => k_is)
    (case su_BadText_BadText => k_is)
    (case ki_BadText_ValueError => kit_is)
    (case ki_BadText_HourError => kit_is)
    (case nf_Reader_text => k_is)
    (case nf_Reader_at => k_is)
    (case a0 => k_is)
    (case l0 => k_is)
    (case c0 => k_is)
    (case k0 => k_is)
    (case a1 => k_is)
    (case l1 => k_is)
    (case c1 => k_is)
    (case k1 => k_is)
    (case a2 => k_is)
    (case l2 => k_is)
    (case c2 => k_is)
    (case k2 => k_is)
    (case a3 => k_is)
    (case l3 => k_is)
    (case c3 => k_is)
    (case k3 => k_is)
    (case a4 => k_is)
    (case l4 => k_is)
    (case c4 => k_is)
    (case k4 => k_is)
    (case a5 => k_is)
    (case l5 => k_is)
    (case c5 => k_is)
    (case k5 => k_is)
    (case a6 => k_is)
    (case l6 => k_is)
    (case c6 => k_is)
    (case k6 => k_is)
    (case a7 => k_is)
    (case l7 => k_is)
    (case c7 => k_is)
    (case k7 => k_is)
    (case a8 => k_is)
    (case l8 => k_is)
    (case c8 => k_is)
    (case k8 => k_is)
    (case a9 => k_is)
    (case l9 => k_is)
    (case c9 => k_is)
    (case k9 => k_is)
    (case a10 => k_is)
    (case l10 => k_is)
    (case c10 => k_is)
    (case k10 => k_is)
    (case a11 => k_is)
    (case l11 => k_is)
    (case c11 => k_is)
    (case k11 => k_is)
    (case a12 => k_is)
    (case l12 => k_is)
    (case c12 => k_is)
    (case k12 => k_is)
    (case a13 => k_is)
    (case l13 => k_is)
    (case c13 => k_is)
    (case k13 => k_is)
    (case a14 => k_is)
    (case l14 => k_is)
    (case c14 => k_is)
    (case k14 => k_is)
    (case a15 => k_is)
    (case l15 => k_is)
    (case c15 => k_is)
    (case k15 => k_is)
    (case a16 => k_is)
    (case l16 => k_is)
    (case c16 => k_is)
    (case k16 => k_is)
    (case a17 => k_is)
    (case l17 => k_is)
    (case c17 => k_is)
    (case k17 => k_is)
    (case a18 => k_is)
    (case l18 => k_is)
    (case c18 => k_is)
    (case k18 => k_is)
    (case a19 => k_is)
    (case l19 => k_is)
    (case c19 => k_is)
    (case k19 => k_is)
    (case a20 => k_is)
    (case l20 => k_is)
    (case c20 => k_is)
    (case k20 => k_is)
    (case a21 => k_is)
    (case l21 => k_is)
    (case c21 => k_is)
    (case k21 => k_is)
    (case a22 => k_is)
    (case l22 => k_is)
    (case c22 => k_is)
    (case k22 => k_is)
    (case a23 => k_is)
    (case l23 => k_is)
    (case c23 => k_is)
    (case k23 => k_is)
    (case a24 => k_is)
    (case l24 => k_is)
    (case c24 => k_is)
    (case k24 => k_is)
    (case a25 => k_is)
    (case l25 => k_is)
    (case c25 => k_is)
    (case k25 => k_is)
    (case a26 => k_is)
    (case l26 => k_is)
    (case c26 => k_is)
    (case k26 => k_is)
    (case a27 => k_is)
    (case l27 => k_is)
    (case c27 => k_is)
    (case k27 => k_is)
    (case a28 => k_is)
    (case i28 => k_is)
    (case l28 => k_is)
    (case c28 => k_is)
    (case k28 => k_is)
    (case a29 => k_is)
    (case l29 => k_is)
    (case c29 => k_is)
    (case k29 => k_is)
    (case a30 => k_is)
    (case l30 => k_is)
    (case c30 => k_is)
    (case k30 => k_is)
    (case a31 => k_is)
    (case l31 => k_is)
    (case c31 => k_is)
    (case k31 => k_is)
    (case z_list => k_is)
    (case z_isinstance => k_is)
    (case z_tuple => k_is)
    (case z_str => k_is)
    (case z_int => k_is)
    (case z_len => k_is)
    (case z_abs => k_is)
    (case z_max => k_is)
    (case z_range => k_is)
    (case z_sum => k_is)
    (case z_bool => k_is)
    (case z_ValueError => k_is)
    (case z_repr => k_is)
    (case m_FIGURES => k_is)
    (case m_WORDS => k_is)
    (case l_WORDS => k_is)
    (case lit_WORDS => exact ⟨⟨_, _, rfl, rfl⟩, ⟨_, _, rfl, rfl⟩, ⟨_, _, rfl, rfl⟩, ⟨_, _, rfl, rfl⟩, trivial⟩)
    (case e0_WORDS => k_is)
    (case e1_WORDS => k_is)
    (case e2_WORDS => k_is)
    (case e3_WORDS => k_is)
    (case m_WORDS__L => k_is)
    (case l_WORDS__L => k_is)
    (case lit_WORDS__L => exact ⟨⟨_, _, rfl, rfl⟩, ⟨_, _, rfl, rfl⟩, ⟨_, _, rfl, rfl⟩, ⟨_, _, rfl, rfl⟩, trivial⟩)
    (case lo_WORDS__L => first | rfl | decide)
    (case ky_WORDS__L => exact ⟨⟨_, rfl⟩, ⟨_, rfl⟩, ⟨_, rfl⟩, ⟨_, rfl⟩, trivial⟩)
    (case m_LETTERS => k_is)
    (case l_LETTERS => k_is)
    (case m_MOST_INTEGER => k_is)
    (case m_PAIRS => k_is)
    (case l_PAIRS => k_is)
    (case m_MOST_POWER => k_is)
    (case m_MOST_LEVELS => k_is)
    (case m_MOST_PARTS => k_is)
    (case m_MOST_REACH => k_is)
