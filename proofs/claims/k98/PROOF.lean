import PyProof.Rows.All
import Wide.All
import OpenK.AllK
import Wide.FinOn
import HandS.ForMost
import HandS.ForExc
import HandS.EndOwn
import HandS.Flow
import HandS.Style
import HandS.Walk
import HandS.IsInst
import HandS.Deep
import HandS.TupAny
import HandS.TupMul
import HandS.TupLe
import HandS.Wide
import HandS.Gcd
import HandS.AnyAll
import KE.DataEq
import KE.DataCmp
import KE.DataMinMax
import KE.DataFind
import KE.SortData
import KE.SortLaws
import HandS.SortInts
import HandS.Conv
import HandS.TupLen
import KE.DataIsa
import HandS.Iter
import HandS.Rev
import HandS.Star
import KE.GoesEnum
import HandS.ExcIs
import HandS.ExcOwn
import KE.Datum
import PySem.Challenge.RW_campslaid_k98_whole_marked_poles
set_option Elab.async false
set_option linter.all false
set_option maxRecDepth 100000
set_option maxHeartbeats 2000000
/-! DL: a layer of plain data over the hand layer. Values are PyData; a def is a Lean function over them. -/
namespace DL
open PySem L2

abbrev D := PyData
/-- the cells of the one list of draws that the law hands about -/
abbrev Wd := List D

/-- what a piece of the program gives: a value, an exception of the class so named, or nothing that is known -/
inductive R (α : Type) where
  | ok (a : α) (w : Wd)
  | exc (c : Str) (w : Wd)
  | bad

/-- what a slot holds: data; a list that this frame alone holds; a dict that this frame alone holds; the draws; the script -/
inductive Sl where
  | v (d : D)
  | ol (ds : List D)
  | od (kvs : List (D × D))
  | dr
  | sc (ns : List Int)

abbrev Ev := List (Option Sl)
abbrev Ef := Ev → Wd → R D

def R.bind {α β : Type} (r : R α) (f : α → Wd → R β) : R β :=
  match r with
  | .ok a w => f a w
  | .exc c w => .exc c w
  | .bad => .bad

def keyD : Key → D
  | .inl i => .int i
  | .inr x => .str x

mutual
inductive Rep (K : PySem.W.Frag) (F : Hp) : V → D → Prop
  | non : Rep K F .non .none
  | bl (b : Bool) : Rep K F (.bl b) (.bool b)
  | int (i : Int) : Rep K F (.int i) (.int i)
  | str (x : Str) : Rep K F (.str x) (.str x)
  | lst {a : Addr} {xs : List V} {ds : List D} : F a = some (.lst xs) → RepL K F xs ds → Rep K F (.ref a) (.list ds)
  | tup {a : Addr} {xs : List V} {ds : List D} : SqT K F a xs → RepL K F xs ds → Rep K F (.ref a) (.tuple ds)
  | dK {a : Addr} {o : Obj} {kvs : List (Key × V)} {ds : List D} : F a = some (.frz o (.dK kvs)) → RepL K F (kvs.map (·.2)) ds → Rep K F (.ref a) (.dict ((kvs.map fun p => keyD p.1).zip ds))
inductive RepL (K : PySem.W.Frag) (F : Hp) : List V → List D → Prop
  | nil : RepL K F [] []
  | cons {v : V} {vs : List V} {d : D} {ds : List D} : Rep K F v d → RepL K F vs ds → RepL K F (v :: vs) (d :: ds)
end

section
variable {K : PySem.W.Frag} {F F' H : Hp}
theorem sqL_mono (h : ∀ a o, F a = some o → F' a = some o) {a : Addr} {xs : List V} (q : SqL K F a xs) : SqL K F' a xs := by
  rcases q with (q | ⟨o, q⟩) | q
  · exact .inl (.inl (h _ _ q))
  · exact .inl (.inr ⟨o, h _ _ q⟩)
  · exact .inr q
theorem sqT_mono (h : ∀ a o, F a = some o → F' a = some o) {a : Addr} {xs : List V} (q : SqT K F a xs) : SqT K F' a xs := by
  rcases q with (q | ⟨o, q⟩) | q
  · exact .inl (.inl (h _ _ q))
  · exact .inl (.inr ⟨o, h _ _ q⟩)
  · exact .inr q
mutual
theorem Rep.mono (h : ∀ a o, F a = some o → F' a = some o) : ∀ {v : V} {d : D}, Rep K F v d → Rep K F' v d
  | _, _, .non => .non
  | _, _, .bl b => .bl b
  | _, _, .int i => .int i
  | _, _, .str x => .str x
  | _, _, .lst e r => .lst (h _ _ e) (RepL.mono h r)
  | _, _, .tup e r => .tup (sqT_mono h e) (RepL.mono h r)
  | _, _, .dK e r => .dK (h _ _ e) (RepL.mono h r)
theorem RepL.mono (h : ∀ a o, F a = some o → F' a = some o) : ∀ {vs : List V} {ds : List D}, RepL K F vs ds → RepL K F' vs ds
  | _, _, .nil => .nil
  | _, _, .cons r t => .cons (Rep.mono h r) (RepL.mono h t)
end
theorem RepL.length : ∀ {vs : List V} {ds : List D}, RepL K F vs ds → vs.length = ds.length
  | _, _, .nil => rfl
  | _, _, .cons _ t => congrArg (· + 1) (RepL.length t)
theorem RepL.get : ∀ {vs : List V} {ds : List D} (i : Nat) {d : D}, RepL K F vs ds → ds[i]? = some d → ∃ v, vs[i]? = some v ∧ Rep K F v d
  | _, _, _, _, .nil, e => by simp at e
  | _, _, 0, _, .cons r _, e => by simp at e; subst e; exact ⟨_, rfl, r⟩
  | _, _, i + 1, d, .cons _ t, e => by
    obtain ⟨v, h1, h2⟩ := RepL.get i t (by simpa using e)
    exact ⟨v, by simpa using h1, h2⟩
theorem RepL.at : ∀ {vs : List V} {ds : List D} (i : Nat) {v : V}, RepL K F vs ds → vs[i]? = some v → ∃ d, ds[i]? = some d ∧ Rep K F v d
  | _, _, _, _, .nil, e => by simp at e
  | _, _, 0, _, .cons r _, e => by simp at e; subst e; exact ⟨_, rfl, r⟩
  | _, _, i + 1, d, .cons _ t, e => by
    obtain ⟨v, h1, h2⟩ := RepL.at i t (by simpa using e)
    exact ⟨v, by simpa using h1, h2⟩
theorem RepL.append : ∀ {vs us : List V} {ds es : List D}, RepL K F vs ds → RepL K F us es → RepL K F (vs ++ us) (ds ++ es)
  | _, _, _, _, .nil, s => s
  | _, _, _, _, .cons r t, s => .cons r (RepL.append t s)
theorem RepL.one {v : V} {d : D} (h : Rep K F v d) : RepL K F [v] [d] := .cons h .nil
theorem RepL.snoc {vs : List V} {ds : List D} {v : V} {d : D} (h : RepL K F vs ds) (h' : Rep K F v d) : RepL K F (vs ++ [v]) (ds ++ [d]) := h.append (.one h')
theorem RepL.take : ∀ {vs : List V} {ds : List D} (n : Nat), RepL K F vs ds → RepL K F (vs.take n) (ds.take n)
  | _, _, 0, _ => by simp; exact .nil
  | _, _, _ + 1, .nil => .nil
  | _, _, n + 1, .cons r t => .cons r (RepL.take n t)
theorem RepL.drop : ∀ {vs : List V} {ds : List D} (n : Nat), RepL K F vs ds → RepL K F (vs.drop n) (ds.drop n)
  | _, _, 0, r => by simpa using r
  | _, _, _ + 1, .nil => .nil
  | _, _, n + 1, .cons _ t => RepL.drop n t
theorem RepL.set : ∀ {vs : List V} {ds : List D} (n : Nat) {v : V} {d : D}, RepL K F vs ds → Rep K F v d → RepL K F (vs.set n v) (ds.set n d)
  | _, _, _, _, _, .nil, _ => .nil
  | _, _, 0, _, _, .cons _ t, h => .cons h t
  | _, _, n + 1, _, _, .cons r t, h => .cons r (RepL.set n t h)
theorem RepL.dropLast {vs : List V} {ds : List D} (h : RepL K F vs ds) : RepL K F vs.dropLast ds.dropLast := by
  rw [List.dropLast_eq_take, List.dropLast_eq_take, h.length]
  exact h.take _
theorem RepL.reverse : ∀ {vs : List V} {ds : List D}, RepL K F vs ds → RepL K F vs.reverse ds.reverse
  | _, _, .nil => .nil
  | _, _, .cons r t => by
    rw [List.reverse_cons, List.reverse_cons]
    exact (RepL.reverse t).snoc r
theorem RepL.eraseIdx : ∀ {vs : List V} {ds : List D} (n : Nat), RepL K F vs ds → RepL K F (vs.eraseIdx n) (ds.eraseIdx n)
  | _, _, _, .nil => .nil
  | _, _, 0, .cons _ t => t
  | _, _, n + 1, .cons r t => .cons r (RepL.eraseIdx n t)
theorem RepL.flatRep {vs : List V} {ds : List D} (h : RepL K F vs ds) : ∀ k : Nat, RepL K F (List.replicate k vs).flatten (List.replicate k ds).flatten
  | 0 => .nil
  | k + 1 => by
    rw [List.replicate_succ, List.replicate_succ, List.flatten_cons, List.flatten_cons]
    exact h.append (RepL.flatRep h k)

mutual
/-- as the hand layer's own reading of data -/
theorem Rep.dp (h : ∀ a o, F a = some o → H a = some o) : ∀ {v : V} {d : D}, Rep K F v d → d.plain = true → Dp K H v d
  | _, _, .non, _ => .non
  | _, _, .bl b, _ => .bl b
  | _, _, .int i, _ => .int i
  | _, _, .str x, _ => .str x
  | _, _, .lst e r, c => .lst (SqL.of (h _ _ e)) (RepL.dp h r (by simpa [PyData.plain] using c))
  | _, _, .tup e r, c => .tup (sqT_mono h e) (RepL.dp h r (by simpa [PyData.plain] using c))
  | _, _, .dK e r, c => by simp [PyData.plain] at c
theorem RepL.dp (h : ∀ a o, F a = some o → H a = some o) : ∀ {vs : List V} {ds : List D}, RepL K F vs ds → PyData.plainAll ds = true → DpAll K H vs ds
  | _, _, .nil, _ => .nil
  | _, _, .cons r t, c => by
    have c' := Bool.and_eq_true_iff.mp (show (PyData.plain _ && PyData.plainAll _) = true by simpa [PyData.plainAll] using c)
    exact .cons (Rep.dp h r c'.1) (RepL.dp h t c'.2)
end
end

/-- what is known of the text once for all: the written part, the module's names, the tables of code objects -/
structure Gx where
  K : PySem.W.Frag
  mg : Str → Option Value
  T : Addr → Prop

/-- what stands in the heap: the frozen part F within H, the tables, the draws at ad -/
structure HeapOk (G : Gx) (F : Hp) (ad : Option Addr) (H : Hp) (w : Wd) : Prop where
  sub : ∀ a o, F a = some o → H a = some o
  noT : ∀ a, F a ≠ none → ¬ G.T a
  noD : ∀ a, F a ≠ none → ad ≠ some a
  tab : ∀ a, G.T a → GxR.TabG H a
  dr : ∀ a, ad = some a → ∃ vs, H a = some (.lst vs) ∧ RepL G.K F vs w

structure Grow (G : Gx) (ad : Option Addr) (F H F' H' : Hp) : Prop where
  mono : ∀ a o, F a = some o → F' a = some o
  keep : ∀ a o, H a = some o → ¬ G.T a → ad ≠ some a → H' a = some o
  nf : ∀ a, H a ≠ none → F a = none → F' a = none

/-- a dict whose keys are ints and texts, pair by pair -/
inductive DKp (K : PySem.W.Frag) (F : Hp) : List (Key × V) → List (D × D) → Prop
  | nil : DKp K F [] []
  | cons {k : Key} {v : V} {d : D} {ks : List (Key × V)} {kds : List (D × D)} : Rep K F v d → DKp K F ks kds → DKp K F ((k, v) :: ks) ((keyD k, d) :: kds)
def DK1 (K : PySem.W.Frag) (F : Hp) (o : HO) (kds : List (D × D)) : Prop := ∃ kvs, o = .dK kvs ∧ DKp K F kvs kds
theorem DKp.mono {K : PySem.W.Frag} {F F' : Hp} (m : ∀ a o, F a = some o → F' a = some o) : ∀ {kvs : List (Key × V)} {kds : List (D × D)}, DKp K F kvs kds → DKp K F' kvs kds
  | _, _, .nil => .nil
  | _, _, .cons r t => .cons (Rep.mono m r) (DKp.mono m t)
theorem DKp.zip {K : PySem.W.Frag} {F : Hp} : ∀ {kvs : List (Key × V)} {kds : List (D × D)}, DKp K F kvs kds → ∃ ds, RepL K F (kvs.map (·.2)) ds ∧ kds = (kvs.map fun p => keyD p.1).zip ds
  | _, _, .nil => ⟨[], .nil, rfl⟩
  | _, _, .cons r t => let ⟨ds, h1, h2⟩ := DKp.zip t; ⟨_ :: ds, .cons r h1, by rw [h2]; rfl⟩
theorem DKp.of {K : PySem.W.Frag} {F : Hp} : ∀ {kvs : List (Key × V)} {ds : List D}, RepL K F (kvs.map (·.2)) ds → DKp K F kvs ((kvs.map fun p => keyD p.1).zip ds)
  | [], _, h => by cases h; exact .nil
  | _ :: _, _, h => by
    cases h with
    | cons r t => exact .cons r (DKp.of t)
theorem DK1.mono {K : PySem.W.Frag} {F F' : Hp} {o : HO} {kds : List (D × D)} (m : ∀ a o, F a = some o → F' a = some o) (h : DK1 K F o kds) : DK1 K F' o kds :=
  let ⟨kvs, e, p⟩ := h; ⟨kvs, e, p.mono m⟩
theorem DK1.notbl {K : PySem.W.Frag} {F : Hp} {o : HO} {kds : List (D × D)} (h : DK1 K F o kds) : ∀ ps, o ≠ .tbl ps := by
  obtain ⟨kvs, e, _⟩ := h
  subst e; intro ps z; cases z
def SlOk (G : Gx) (F : Hp) (ad : Option Addr) (H : Hp) (v : V) : Sl → Prop
  | .v d => Rep G.K F v d
  | .ol ds => ∃ a vs, v = .ref a ∧ F a = none ∧ ad ≠ some a ∧ H a = some (.lst vs) ∧ RepL G.K F vs ds
  | .od kvs => ∃ a o, v = .ref a ∧ F a = none ∧ ad ≠ some a ∧ H a = some o ∧ DK1 G.K F o kvs
  | .dr => ∃ a, ad = some a ∧ v = .ref a
  | .sc ns => ∃ a, v = .ref a ∧ SqL G.K F a (ns.map V.int)

def Sl.own : Sl → Bool
  | .ol _ => true
  | .od _ => true
  | _ => false

structure EnvOk (G : Gx) (F : Hp) (ad : Option Addr) (σ : St) (H : Hp) (ρ : Ev) : Prop where
  len : ρ.length = σ.length
  sl : ∀ (i : Nat) s, ρ[i]? = some (some s) → ∃ v, σ[i]? = some (some v) ∧ SlOk G F ad H v s
  dist : ∀ (i j : Nat) s t v, i ≠ j → ρ[i]? = some (some s) → ρ[j]? = some (some t) → s.own = true → t.own = true → σ[i]? = some (some v) → σ[j]? ≠ some (some v)

structure At (G : Gx) (F : Hp) (ad : Option Addr) (σ : St) (H : Hp) (ρ : Ev) (w : Wd) : Prop where
  hp : HeapOk G F ad H w
  en : EnvOk G F ad σ H ρ

section
variable {G : Gx} {F F' F'' H H' H'' : Hp} {ad : Option Addr} {σ : St} {ρ : Ev} {w w' : Wd}
theorem Grow.refl : Grow G ad F H F H := ⟨fun _ _ e => e, fun _ _ e _ _ => e, fun _ _ e => e⟩
theorem Grow.trans (a : Grow G ad F H F' H') (b : Grow G ad F' H' F'' H'') (hT : ∀ a, G.T a → H' a ≠ none) (hD : ∀ a, ad = some a → H' a ≠ none) : Grow G ad F H F'' H'' where
  mono := fun c o e => b.mono c o (a.mono c o e)
  keep := fun c o e h1 h2 => b.keep c o (a.keep c o e h1 h2) h1 h2
  nf := fun c h1 h2 => b.nf c (by
    by_cases ht : G.T c
    · exact hT c ht
    · by_cases hd : ad = some c
      · exact hD c hd
      · cases q : H c with
        | none => exact absurd q h1
        | some o => rw [a.keep c o q ht hd]; exact fun z => by cases z) (a.nf c h1 h2)
theorem HeapOk.tN (h : HeapOk G F ad H w) : ∀ a, G.T a → H a ≠ none := fun a ht z => by
  obtain ⟨ps, e, _⟩ := h.tab a ht
  rw [z] at e; cases e
theorem HeapOk.dN (h : HeapOk G F ad H w) : ∀ a, ad = some a → H a ≠ none := fun a ht z => by
  obtain ⟨ps, e, _⟩ := h.dr a ht
  rw [z] at e; cases e
theorem Grow.then (a : Grow G ad F H F' H') (h : HeapOk G F' ad H' w) (b : Grow G ad F' H' F'' H'') : Grow G ad F H F'' H'' := a.trans b h.tN h.dN
theorem notT {a : Addr} {o : HO} (h : HeapOk G F ad H w) (e : H a = some o) (n : ∀ ps, o ≠ .tbl ps) : ¬ G.T a := fun ht => by
  obtain ⟨ps, e', _⟩ := h.tab a ht
  rw [e] at e'
  exact n ps (Option.some.inj e')
theorem SlOk.grow {v : V} {s : Sl} (hp : HeapOk G F ad H w) (g : Grow G ad F H F' H') (h : SlOk G F ad H v s) : SlOk G F' ad H' v s := by
  cases s with
  | v d => exact Rep.mono g.mono h
  | dr => exact h
  | sc ns =>
    obtain ⟨a, e, q⟩ := h
    exact ⟨a, e, sqL_mono g.mono q⟩
  | ol ds =>
    obtain ⟨a, vs, e, n, nd, hh, r⟩ := h
    exact ⟨a, vs, e, g.nf a (by rw [hh]; exact fun z => by cases z) n, nd, g.keep a _ hh (notT hp hh fun ps z => by cases z) nd, r.mono g.mono⟩
  | od kvs =>
    obtain ⟨a, o, e, n, nd, hh, r⟩ := h
    exact ⟨a, o, e, g.nf a (by rw [hh]; exact fun z => by cases z) n, nd, g.keep a _ hh (notT hp hh r.notbl) nd, r.mono g.mono⟩
theorem EnvOk.grow (hp : HeapOk G F ad H w) (g : Grow G ad F H F' H') (h : EnvOk G F ad σ H ρ) : EnvOk G F' ad σ H' ρ where
  len := h.len
  sl := fun i s e => by
    obtain ⟨v, h1, h2⟩ := h.sl i s e
    exact ⟨v, h1, h2.grow hp g⟩
  dist := h.dist
theorem At.grow (a : At G F ad σ H ρ w) (h : HeapOk G F' ad H' w') (g : Grow G ad F H F' H') : At G F' ad σ H' ρ w' := ⟨h, a.en.grow a.hp g⟩
/-- H' is H and a new thing -/
theorem HeapOk.new (h : HeapOk G F ad H w) {p : Addr} {o : HO} (hp : H p = none) : HeapOk G F ad (upd H p o) w ∧ Grow G ad F H F (upd H p o) := by
  have ne : ∀ a o, H a = some o → a ≠ p := fun a o e => ne_of_none e hp
  refine ⟨⟨fun a o' e => ?_, h.noT, h.noD, fun a ht => ?_, fun a ha => ?_⟩, fun _ _ e => e, fun a o' e _ _ => ?_, fun _ _ e => e⟩
  · have e' := h.sub a o' e
    rw [upd_ne (ne a _ e')]; exact e'
  · obtain ⟨ps, e, t⟩ := h.tab a ht
    exact ⟨ps, by rw [upd_ne (ne a _ e)]; exact e, t⟩
  · obtain ⟨vs, e, r⟩ := h.dr a ha
    exact ⟨vs, by rw [upd_ne (ne a _ e)]; exact e, r⟩
  · rw [upd_ne (ne a _ e)]; exact e
/-- a new thing is frozen -/
theorem HeapOk.newF (h : HeapOk G F ad H w) {p : Addr} {o : HO} (hp : H p = none) : HeapOk G (upd F p o) ad (upd H p o) w ∧ Grow G ad F H (upd F p o) (upd H p o) := by
  have hF : F p = none := by
    cases q : F p with
    | none => rfl
    | some u => rw [h.sub p u q] at hp; cases hp
  have mono : ∀ a o', F a = some o' → upd F p o a = some o' := fun a o' e => by rw [upd_ne (ne_of_none e hF)]; exact e
  obtain ⟨h1, g1⟩ := h.new (o := o) hp
  refine ⟨⟨fun a o' e => ?_, fun a ha => ?_, fun a ha => ?_, h1.tab, fun a ha => ?_⟩, mono, g1.keep, fun a h2 h3 => ?_⟩
  · by_cases q : a = p
    · subst q; rw [upd_same] at e ⊢; exact e
    · rw [upd_ne q] at e; exact h1.sub a o' e
  · by_cases q : a = p
    · subst q; exact fun ht => h.tN a ht hp
    · rw [upd_ne q] at ha; exact h.noT a ha
  · by_cases q : a = p
    · subst q; exact fun ht => h.dN a ht hp
    · rw [upd_ne q] at ha; exact h.noD a ha
  · obtain ⟨vs, e, r⟩ := h1.dr a ha
    exact ⟨vs, e, r.mono mono⟩
  · rw [upd_ne (fun z => by subst z; exact h2 hp)]; exact h3
end

/-- what is asked behind a piece -/
def Post (G : Gx) (Wx : WX) (σ : St) (F : Hp) (ad : Option Addr) (H : Hp) {α : Type} (P : α → Wd → Hp → Hp → Prop) : R α → Prop
  | .ok a w => ∀ F' H', HeapOk G F' ad H' w → Grow G ad F H F' H' → P a w F' H'
  | .exc c w => ∃ C, G.mg c = some (.ref C) ∧ ∀ F' H', HeapOk G F' ad H' w → Grow G ad F H F' H' → Wx (.ref C) none σ H'
  | .bad => False
def tD (G : Gx) (Wx : WX) (f : Ef) : TE := fun σ H Q => ∃ F ad ρ w, At G F ad σ H ρ w ∧ Post G Wx σ F ad H (fun d _ F' H' => ∀ v, Rep G.K F' v d → Q v H') (f ρ w)
/-- a value whose content is read -/
def RepB (G : Gx) (F : Hp) (ad : Option Addr) (H : Hp) (v : V) (d : D) : Prop :=
  Rep G.K F v d ∨ (∃ ds, d = .list ds ∧ SlOk G F ad H v (.ol ds)) ∨ ∃ kvs, d = .dict kvs ∧ SlOk G F ad H v (.od kvs)
def tB (G : Gx) (Wx : WX) (f : Ef) : TE := fun σ H Q => ∃ F ad ρ w, At G F ad σ H ρ w ∧ Post G Wx σ F ad H (fun d _ F' H' => ∀ v, RepB G F' ad H' v d → Q v H') (f ρ w)
/-- a list that is new -/
def tO (G : Gx) (Wx : WX) (f : Ev → Wd → R (List D)) : TE := fun σ H Q => ∃ F ad ρ w, At G F ad σ H ρ w ∧
  Post G Wx σ F ad H (fun ds _ F' H' => ∀ a vs, H a = none → H' a = some (.lst vs) → F' a = none → RepL G.K F' vs ds → Q (.ref a) H') (f ρ w)
def tT (G : Gx) (Wx : WX) (f : Ev → Wd → R Bool) : TT := fun σ H Q => ∃ F ad ρ w, At G F ad σ H ρ w ∧ Post G Wx σ F ad H (fun b _ _ H' => Q b H') (f ρ w)
def tL (G : Gx) (Wx : WX) (f : Ev → Wd → R (List D)) : TA := fun σ H Q => ∃ F ad ρ w, At G F ad σ H ρ w ∧ Post G Wx σ F ad H (fun ds _ F' H' => ∀ vs, RepL G.K F' vs ds → Q vs H') (f ρ w)

abbrev SE (G : Gx) (Wx : WX) (X : Cx) (e : Expr) (f : Ef) : Prop := PE X e (tD G Wx f)
abbrev SB (G : Gx) (Wx : WX) (X : Cx) (e : Expr) (f : Ef) : Prop := PE X e (tB G Wx f)
abbrev SO (G : Gx) (Wx : WX) (X : Cx) (e : Expr) (f : Ev → Wd → R (List D)) : Prop := PE X e (tO G Wx f)
abbrev ST (G : Gx) (Wx : WX) (X : Cx) (e : Expr) (f : Ev → Wd → R Bool) : Prop := PT X e (tT G Wx f)

theorem PE.imp {X : Cx} {e : Expr} {t t' : TE} (h : PE X e t) (i : ∀ σ H Q, t' σ H Q → t σ H Q) : PE X e t' := ⟨fun pins s σ H Q I q => h.run pins s σ H Q I (i σ H Q q)⟩
theorem PT.imp {X : Cx} {e : Expr} {t t' : TT} (h : PT X e t) (i : ∀ σ H Q, t' σ H Q → t σ H Q) : PT X e t' := ⟨fun pins s σ H Q I q => h.run pins s σ H Q I (i σ H Q q)⟩
theorem PA.imp {X : Cx} {es : List Expr} {t t' : TA} (h : PA X es t) (i : ∀ σ H Q, t' σ H Q → t σ H Q) : PA X es t' := ⟨fun pos pins s σ H Q I q => h.run pos pins s σ H Q I (i σ H Q q)⟩
theorem PS.imp {X : Cx} {e : Stmt} {t t' : TS} (h : PS X e t) (i : ∀ D σ H, t' D σ H → t D σ H) : PS X e t' := ⟨fun pins s σ H D I q => h.run pins s σ H D I (i D σ H q)⟩
theorem PSs.imp {X : Cx} {e : List Stmt} {t t' : TS} (h : PSs X e t) (i : ∀ D σ H, t' D σ H → t D σ H) : PSs X e t' := ⟨fun pins s σ H D I q => h.run pins s σ H D I (i D σ H q)⟩

section
variable {G : Gx} {Wx : WX} {σ : St} {F H : Hp} {ad : Option Addr} {ρ : Ev} {w : Wd} {α β : Type}
/-- the heart: a piece, then another -/
theorem Post.bind {r : R α} {k : α → Wd → R β} {P : β → Wd → Hp → Hp → Prop} (hp : HeapOk G F ad H w) (h : Post G Wx σ F ad H P (r.bind k)) :
    Post G Wx σ F ad H (fun a w1 F1 H1 => Post G Wx σ F1 ad H1 P (k a w1)) r := by
  cases r with
  | bad => exact h
  | exc c w1 => exact h
  | ok a w1 =>
    intro F1 H1 h1 g1
    have h' : Post G Wx σ F ad H P (k a w1) := h
    cases q : k a w1 with
    | bad => rw [q] at h'; exact h'
    | exc c w2 =>
      rw [q] at h'
      obtain ⟨C, e, z⟩ := h'
      exact ⟨C, e, fun F2 H2 h2 g2 => z F2 H2 h2 (g1.then h1 g2)⟩
    | ok b w2 =>
      rw [q] at h'
      exact fun F2 H2 h2 g2 => h' F2 H2 h2 (g1.then h1 g2)
theorem Post.imp {r : R α} {P P' : α → Wd → Hp → Hp → Prop} (h : Post G Wx σ F ad H P r) (i : ∀ a w F' H', HeapOk G F' ad H' w → Grow G ad F H F' H' → P a w F' H' → P' a w F' H') : Post G Wx σ F ad H P' r := by
  cases r with
  | bad => exact h
  | exc c w => exact h
  | ok a w => exact fun F' H' h1 g1 => i a w F' H' h1 g1 (h F' H' h1 g1)
theorem Rep.b {v : V} {d : D} (h : Rep G.K F v d) : RepB G F ad H v d := .inl h
theorem RepB.grow {F' H' : Hp} {v : V} {d : D} (hp : HeapOk G F ad H w) (g : Grow G ad F H F' H') (h : RepB G F ad H v d) : RepB G F' ad H' v d := by
  rcases h with h | ⟨ds, e, h⟩ | ⟨kvs, e, h⟩
  · exact .inl (h.mono g.mono)
  · exact .inr (.inl ⟨ds, e, h.grow hp g⟩)
  · exact .inr (.inr ⟨kvs, e, h.grow hp g⟩)
theorem RepB.list {v : V} {ds : List D} (hp : HeapOk G F ad H w) (h : RepB G F ad H v (.list ds)) : ∃ a vs, v = .ref a ∧ H a = some (.lst vs) ∧ RepL G.K F vs ds := by
  rcases h with h | ⟨es, e, a, vs, e1, _, _, e2, r⟩ | ⟨kvs, e, h⟩
  · cases h with
    | lst e r => exact ⟨_, _, rfl, hp.sub _ _ e, r⟩
  · cases e
    exact ⟨a, vs, e1, e2, r⟩
  · cases e
theorem RepB.tup {v : V} {ds : List D} (hp : HeapOk G F ad H w) (h : RepB G F ad H v (.tuple ds)) : ∃ a vs, v = .ref a ∧ SqT G.K H a vs ∧ RepL G.K F vs ds := by
  rcases h with h | ⟨es, e, _⟩ | ⟨kvs, e, h⟩
  · cases h with
    | tup e r => exact ⟨_, _, rfl, sqT_mono hp.sub e, r⟩
  · cases e
  · cases e
theorem RepB.int {v : V} {i : Int} (h : RepB G F ad H v (.int i)) : v = .int i := by
  rcases h with h | ⟨es, e, _⟩ | ⟨kvs, e, h⟩
  · cases h; rfl
  · cases e
  · cases e
theorem RepB.bool {v : V} {i : Bool} (h : RepB G F ad H v (.bool i)) : v = .bl i := by
  rcases h with h | ⟨es, e, _⟩ | ⟨kvs, e, h⟩
  · cases h; rfl
  · cases e
  · cases e
theorem RepB.str {v : V} {i : Str} (h : RepB G F ad H v (.str i)) : v = .str i := by
  rcases h with h | ⟨es, e, _⟩ | ⟨kvs, e, h⟩
  · cases h; rfl
  · cases e
  · cases e
theorem RepB.none {v : V} (h : RepB G F ad H v .none) : v = .non := by
  rcases h with h | ⟨es, e, _⟩ | ⟨kvs, e, h⟩
  · cases h; rfl
  · cases e
  · cases e
theorem RepB.dp {v : V} {d : D} (hp : HeapOk G F ad H w) (h : RepB G F ad H v d) (c : d.plain = true) : Dp G.K H v d := by
  rcases h with h | ⟨ds, rfl, a, vs, rfl, _, _, e2, r⟩ | ⟨kvs, rfl, h⟩
  · exact h.dp hp.sub c
  · exact .lst (SqL.of e2) (r.dp hp.sub (by simpa [PyData.plain] using c))
  · simp [PyData.plain] at c
end
end DL

set_option Elab.async false
set_option linter.all false
set_option maxRecDepth 100000
set_option maxHeartbeats 2000000
namespace DL
open PySem PySem.Spec L2

abbrev gx (X : Cx) (T : Addr → Prop) : Gx := ⟨X.K, X.mg, T⟩
def R.of {α : Type} (w : Wd) : Option α → R α
  | some a => .ok a w
  | none => .bad

section
variable {G : Gx} {Wx : WX} {σ : St} {F H : Hp} {ad : Option Addr} {ρ : Ev} {w : Wd} {α β : Type}

/-- one operand, then what follows -/
theorem un_in {fa : Ef} {k : D → Wd → R β} {P : β → Wd → Hp → Hp → Prop} {Z : V → Hp → Prop} (a0 : At G F ad σ H ρ w) (h : Post G Wx σ F ad H P ((fa ρ w).bind k))
    (hv : ∀ F1 H1 w1 x dx, At G F1 ad σ H1 ρ w1 → Grow G ad F H F1 H1 → RepB G F1 ad H1 x dx → Post G Wx σ F1 ad H1 P (k dx w1) → Z x H1) : tB G Wx fa σ H Z :=
  ⟨F, ad, ρ, w, a0, (h.bind a0.hp).imp fun d w1 F1 H1 h1 g1 p v r => hv F1 H1 w1 v d (a0.grow h1 g1) g1 r p⟩
theorem unE_in {fa : Ef} {k : D → Wd → R β} {P : β → Wd → Hp → Hp → Prop} {Z : V → Hp → Prop} (a0 : At G F ad σ H ρ w) (h : Post G Wx σ F ad H P ((fa ρ w).bind k))
    (hv : ∀ F1 H1 w1 x dx, At G F1 ad σ H1 ρ w1 → Grow G ad F H F1 H1 → Rep G.K F1 x dx → Post G Wx σ F1 ad H1 P (k dx w1) → Z x H1) : tD G Wx fa σ H Z :=
  ⟨F, ad, ρ, w, a0, (h.bind a0.hp).imp fun d w1 F1 H1 h1 g1 p v r => hv F1 H1 w1 v d (a0.grow h1 g1) g1 r p⟩
/-- two operands -/
theorem bin_in {fa fb : Ef} {k : D → D → Wd → R β} {P : β → Wd → Hp → Hp → Prop} {Z : V → V → Hp → Prop} (a0 : At G F ad σ H ρ w) (h : Post G Wx σ F ad H P ((fa ρ w).bind fun a w1 => (fb ρ w1).bind fun b w2 => k a b w2))
    (hv : ∀ F1 H1 w1 x y dx dy, At G F1 ad σ H1 ρ w1 → Grow G ad F H F1 H1 → RepB G F1 ad H1 x dx → RepB G F1 ad H1 y dy → Post G Wx σ F1 ad H1 P (k dx dy w1) → Z x y H1) :
    tB G Wx fa σ H fun x H1 => tB G Wx fb σ H1 fun y H2 => Z x y H2 :=
  un_in a0 h fun F1 H1 w1 x dx a1 g1 rx p => un_in a1 p fun F2 H2 w2 y dy a2 g2 ry p2 => hv F2 H2 w2 x y dx dy a2 (g1.then a1.hp g2) (rx.grow a1.hp g2) ry p2
theorem Post.here {P : α → Wd → Hp → Hp → Prop} {a : α} (hp : HeapOk G F ad H w) (h : Post G Wx σ F ad H P (.ok a w)) : P a w F H := h F H hp Grow.refl
end

/-! ### operators by values -/
def OpD (X : Cx) (T : Addr → Prop) (f : Value → Value → Sem Value) (g : D → D → Option D) : Prop :=
  ∀ (pins : List (Addr × Obj)) (s : Shared) (σ : St) (H : Hp) (x y : V) (v u : Value) (Q : VK) (F : Hp) (ad : Option Addr) (w : Wd) (dx dy d : D), Inv X pins σ H s → RelV x v → RelV y u → HeapOk (gx X T) F ad H w →
    RepB (gx X T) F ad H x dx → RepB (gx X T) F ad H y dy → g dx dy = some d → (∀ v F' H', HeapOk (gx X T) F' ad H' w → Grow (gx X T) ad F H F' H' → Rep X.K F' v d → Q v H') →
    wpAny (model X.prog X.w) X.A (f v u) (EP X pins σ Q) X.xe s
/-- the reading of such an operator -/
def rD (X : Cx) (T : Addr → Prop) (g : D → D → Option D) : R2 := fun x y H Q => ∃ F ad w dx dy d, HeapOk (gx X T) F ad H w ∧ RepB (gx X T) F ad H x dx ∧ RepB (gx X T) F ad H y dy ∧ g dx dy = some d ∧
  ∀ v F' H', HeapOk (gx X T) F' ad H' w → Grow (gx X T) ad F H F' H' → Rep X.K F' v d → Q v H'
theorem OpD.r {X : Cx} {T : Addr → Prop} {f : Value → Value → Sem Value} {g : D → D → Option D} (h : OpD X T f g) : OpR X f (rD X T g) := by
  intro pins s σ H x y v u Q I rx ry ⟨F, ad, w, dx, dy, d, hp, bx, yy, e, q⟩
  exact h pins s σ H x y v u Q F ad w dx dy d I rx ry hp bx yy e q
def eBin (g : D → D → Option D) (fa fb : Ef) : Ef := fun ρ w => (fa ρ w).bind fun a w1 => (fb ρ w1).bind fun b w2 => R.of w2 (g a b)
theorem rD_in {X : Cx} {T : Addr → Prop} {Wx : WX} {σ : St} {F H : Hp} {ad : Option Addr} {w : Wd} {g : D → D → Option D} {x y : V} {dx dy : D} {Q : VK} (hp : HeapOk (gx X T) F ad H w) (rx : RepB (gx X T) F ad H x dx) (ry : RepB (gx X T) F ad H y dy)
    (p : Post (gx X T) Wx σ F ad H (fun d _ F' H' => ∀ v, Rep X.K F' v d → Q v H') (R.of w (g dx dy))) : rD X T g x y H Q := by
  cases e : g dx dy with
  | none => rw [e] at p; exact p.elim
  | some d =>
    rw [e] at p
    exact ⟨F, ad, w, dx, dy, d, hp, rx, ry, e, fun v F' H' h1 g1 r => p F' H' h1 g1 v r⟩

section
variable {X : Cx} {T : Addr → Prop} {Wx : WX} {a b c : Expr} {fa fb fc : Ef} {pos : Pos}
/-- a frozen value may be read -/
theorem sb (h : SE (gx X T) Wx X a fa) : SB (gx X T) Wx X a fa := PE.imp h fun σ H Q ⟨F, ad, ρ, w, a0, p⟩ =>
  ⟨F, ad, ρ, w, a0, p.imp fun d w1 F1 H1 h1 g1 q v r => q v r.b⟩
theorem se_bin {op : Operator} {g : D → D → Option D} (ho : OpD X T (binaryOp op) g) (ha : SB (gx X T) Wx X a fa) (hb : SB (gx X T) Wx X b fb) : SE (gx X T) Wx X (.BinOp a op b pos) (eBin g fa fb) :=
  PE.imp (pe_op ho.r ha hb) fun σ H Q ⟨F, ad, ρ, w, a0, p⟩ => bin_in a0 p fun F1 H1 w1 x y dx dy a1 _ rx ry p1 => rD_in a1.hp rx ry p1
theorem se_cmp {op : CmpOp} {g : D → D → Option D} (ho : OpD X T (compareOp op) g) (ha : SB (gx X T) Wx X a fa) (hb : SB (gx X T) Wx X b fb) (hm : behindInMarks op b = false) : SE (gx X T) Wx X (.Compare a [op] [b] pos) (eBin g fa fb) :=
  PE.imp (pe_cmpR ho.r ha hb hm) fun σ H Q ⟨F, ad, ρ, w, a0, p⟩ => bin_in a0 p fun F1 H1 w1 x y dx dy a1 _ rx ry p1 => rD_in a1.hp rx ry p1
/-- a op b op c -/
def eChain (g g' : D → D → Option D) (fa fb fc : Ef) : Ef := fun ρ w => (fa ρ w).bind fun a w1 => (fb ρ w1).bind fun b w2 =>
  match g a b with
  | some (.bool true) => (fc ρ w2).bind fun c w3 => R.of w3 (g' b c)
  | some (.bool false) => .ok (.bool false) w2
  | _ => .bad
theorem se_chain {op op' : CmpOp} {g g' : D → D → Option D} (ho : OpD X T (compareOp op) g) (ho' : OpD X T (compareOp op') g') (ha : SB (gx X T) Wx X a fa) (hb : SB (gx X T) Wx X b fb) (hc : SB (gx X T) Wx X c fc)
    (hm : lastMarks [op, op'] [b, c] = false := by with_unfolding_all rfl) : SE (gx X T) Wx X (.Compare a [op, op'] [b, c] pos) (eChain g g' fa fb fc) :=
  PE.imp (pe_chain ho.r ho'.r ha hb hc hm) fun σ H Q ⟨F, ad, ρ, w, a0, p⟩ => bin_in a0 p fun F1 H1 w1 x y dx dy a1 _ rx ry p1 => by
    cases e : g dx dy with
    | none => simp only [e] at p1; exact p1.elim
    | some z =>
      simp only [e] at p1
      refine ⟨F1, ad, w1, dx, dy, z, a1.hp, rx, ry, e, fun v F2 H2 h2 g2 r => ?_⟩
      cases z with
      | bool k =>
        cases r
        refine ⟨k, rfl, ?_⟩
        cases k with
        | false => exact p1 F2 H2 h2 g2 _ (.bl false)
        | true =>
          have a2 := a1.grow h2 g2
          rw [if_pos rfl]
          have p2 : Post (gx X T) Wx σ F2 ad H2 (fun d x F' H' => ∀ v, Rep X.K F' v d → Q v H') ((fc ρ w1).bind fun c w3 => R.of w3 (g' dy c)) := by
            cases q : (fc ρ w1).bind fun c w3 => R.of w3 (g' dy c) with
            | bad => simp only [q] at p1; exact p1
            | exc c w => simp only [q] at p1; obtain ⟨C, e1, z⟩ := p1; exact ⟨C, e1, fun F3 H3 h3 g3 => z F3 H3 h3 (g2.then h2 g3)⟩
            | ok d w => simp only [q] at p1; exact fun F3 H3 h3 g3 => p1 F3 H3 h3 (g2.then h2 g3)
          exact un_in a2 p2 fun F3 H3 w3 z dz a3 g3 rz p3 => rD_in a3.hp ((ry.grow a1.hp g2).grow a2.hp g3) rz p3
      | _ => exact p1.elim
end

/-! ### tests, and, or, not, if -/
def truth : D → Option Bool
  | .none => some false
  | .bool b => some b
  | .int i => some (i != 0)
  | .list ds => some (!ds.isEmpty)
  | .tuple ds => some (!ds.isEmpty)
  | _ => none
theorem RepL.isEmpty {K : PySem.W.Frag} {F : Hp} {vs : List V} {ds : List D} (h : RepL K F vs ds) : vs.isEmpty = ds.isEmpty := by
  cases h <;> rfl
theorem truV {G : Gx} {F H : Hp} {ad : Option Addr} {w : Wd} {v : V} {d : D} {k : Bool} (hp : HeapOk G F ad H w) (r : RepB G F ad H v d) (e : truth d = some k) : TruV G.K v H k := by
  cases d with
  | none => rw [r.none]; exact (Option.some.inj e).symm
  | bool b => rw [r.bool]; exact (Option.some.inj e).symm
  | int i => rw [r.int]; exact (Option.some.inj e).symm
  | str _ => cases e
  | dict _ => cases e
  | list ds =>
    obtain ⟨a, vs, rfl, h, rr⟩ := r.list hp
    exact .inl ⟨vs, SqL.of h, by rw [rr.isEmpty]; exact (Option.some.inj e).symm⟩
  | tuple ds =>
    obtain ⟨a, vs, rfl, h, rr⟩ := r.tup hp
    exact .inr (.inl ⟨vs, h, by rw [rr.isEmpty]; exact (Option.some.inj e).symm⟩)
section
variable {X : Cx} {T : Addr → Prop} {Wx : WX} {a b c : Expr} {rest : List Expr} {fa fb fc : Ef} {ta tb : Ev → Wd → R Bool} {pos : Pos}
/-- a value's truth as a test -/
def tstV (fa : Ef) : Ev → Wd → R Bool := fun ρ w => (fa ρ w).bind fun d w1 => R.of w1 (truth d)
theorem st_val (ha : SB (gx X T) Wx X a fa) (he : ∀ whole, isTrue a X.env whole = (do let v ← whole; standAt a.pos; holding [v] (truthy v)) := by intro _; rfl) : ST (gx X T) Wx X a (tstV fa) :=
  PT.imp (pt_truth ha he) fun σ H Q ⟨F, ad, ρ, w, a0, p⟩ => un_in a0 p fun F1 H1 w1 x dx a1 _ rx p1 => by
    cases e : truth dx with
    | none => rw [e] at p1; exact p1.elim
    | some k => rw [e] at p1; exact ⟨k, truV a1.hp rx e, p1 F1 H1 a1.hp Grow.refl⟩
/-- a comparison as a test -/
def bOf : D → Option Bool
  | .bool b => some b
  | _ => none
def tCm (g : D → D → Option D) (fa fb : Ef) : Ev → Wd → R Bool := fun ρ w => (fa ρ w).bind fun a w1 => (fb ρ w1).bind fun b w2 => R.of w2 ((g a b).bind bOf)
theorem rD_inB {σ : St} {F H : Hp} {ad : Option Addr} {w : Wd} {g : D → D → Option D} {x y : V} {dx dy : D} {Q : Bool → Hp → Prop} (hp : HeapOk (gx X T) F ad H w) (rx : RepB (gx X T) F ad H x dx) (ry : RepB (gx X T) F ad H y dy)
    (p : Post (gx X T) Wx σ F ad H (fun b _ F' H' => Q b H') (R.of w ((g dx dy).bind bOf))) : rD X T g x y H fun z H' => ∃ k, z = .bl k ∧ Q k H' := by
  cases e : g dx dy with
  | none => rw [e] at p; exact p.elim
  | some d =>
    rw [e] at p
    cases d with
    | bool k => exact ⟨F, ad, w, dx, dy, .bool k, hp, rx, ry, e, fun v F' H' h1 g1 r => by cases r; exact ⟨k, rfl, p F' H' h1 g1⟩⟩
    | _ => exact p.elim
theorem st_cmp {op : CmpOp} {g : D → D → Option D} (ho : OpD X T (compareOp op) g) (ha : SB (gx X T) Wx X a fa) (hb : SB (gx X T) Wx X b fb) (hm : behindInMarks op b = false) : ST (gx X T) Wx X (.Compare a [op] [b] pos) (tCm g fa fb) :=
  PT.imp (pt_cmpR ho.r ha hb hm) fun σ H Q ⟨F, ad, ρ, w, a0, p⟩ => bin_in a0 p fun F1 H1 w1 x y dx dy a1 _ rx ry p1 => rD_inB a1.hp rx ry p1
def tChn (g g' : D → D → Option D) (fa fb fc : Ef) : Ev → Wd → R Bool := fun ρ w => (fa ρ w).bind fun a w1 => (fb ρ w1).bind fun b w2 =>
  match g a b with
  | some (.bool true) => (fc ρ w2).bind fun c w3 => R.of w3 ((g' b c).bind bOf)
  | some (.bool false) => .ok false w2
  | _ => .bad
theorem Post.shift {G : Gx} {σ : St} {F H F2 H2 : Hp} {ad : Option Addr} {w : Wd} {α : Type} {P : α → Wd → Hp → Hp → Prop} {r : R α} (h2 : HeapOk G F2 ad H2 w) (g2 : Grow G ad F H F2 H2) (p : Post G Wx σ F ad H P r) : Post G Wx σ F2 ad H2 P r := by
  cases r with
  | bad => exact p
  | exc c w => obtain ⟨C, e1, z⟩ := p; exact ⟨C, e1, fun F3 H3 h3 g3 => z F3 H3 h3 (g2.then h2 g3)⟩
  | ok d w => exact fun F3 H3 h3 g3 => p F3 H3 h3 (g2.then h2 g3)
theorem st_chain {op op' : CmpOp} {g g' : D → D → Option D} (ho : OpD X T (compareOp op) g) (ho' : OpD X T (compareOp op') g') (ha : SB (gx X T) Wx X a fa) (hb : SB (gx X T) Wx X b fb) (hc : SB (gx X T) Wx X c fc)
    (hm : lastMarks [op, op'] [b, c] = false := by with_unfolding_all rfl) : ST (gx X T) Wx X (.Compare a [op, op'] [b, c] pos) (tChn g g' fa fb fc) :=
  PT.imp (pt_chain ho.r ho'.r ha hb hc hm) fun σ H Q ⟨F, ad, ρ, w, a0, p⟩ => bin_in a0 p fun F1 H1 w1 x y dx dy a1 _ rx ry p1 => by
    cases e : g dx dy with
    | none => simp only [e] at p1; exact p1.elim
    | some z =>
      simp only [e] at p1
      refine ⟨F1, ad, w1, dx, dy, z, a1.hp, rx, ry, e, fun v F2 H2 h2 g2 r => ?_⟩
      cases z with
      | bool k =>
        cases r
        refine ⟨k, rfl, ?_⟩
        cases k with
        | false => exact ⟨false, rfl, p1 F2 H2 h2 g2⟩
        | true =>
          have a2 := a1.grow h2 g2
          rw [if_pos rfl]
          exact un_in a2 (p1.shift h2 g2) fun F3 H3 w3 z dz a3 g3 rz p3 => rD_inB a3.hp ((ry.grow a1.hp g2).grow a2.hp g3) rz p3
      | _ => exact p1.elim
def tNo (ta : Ev → Wd → R Bool) : Ev → Wd → R Bool := fun ρ w => (ta ρ w).bind fun b w1 => .ok (!b) w1
def tAn (ta tb : Ev → Wd → R Bool) : Ev → Wd → R Bool := fun ρ w => (ta ρ w).bind fun b w1 => if b = true then tb ρ w1 else .ok false w1
def tOo (ta tb : Ev → Wd → R Bool) : Ev → Wd → R Bool := fun ρ w => (ta ρ w).bind fun b w1 => if b = true then .ok true w1 else tb ρ w1
theorem tst_in {G : Gx} {σ : St} {F H : Hp} {ad : Option Addr} {ρ : Ev} {w : Wd} {β : Type} {k : Bool → Wd → R β} {P : β → Wd → Hp → Hp → Prop} {Z : Bool → Hp → Prop} (a0 : At G F ad σ H ρ w) (h : Post G Wx σ F ad H P ((ta ρ w).bind k))
    (hv : ∀ F1 H1 w1 b, At G F1 ad σ H1 ρ w1 → Grow G ad F H F1 H1 → Post G Wx σ F1 ad H1 P (k b w1) → Z b H1) : tT G Wx ta σ H Z :=
  ⟨F, ad, ρ, w, a0, (h.bind a0.hp).imp fun d w1 F1 H1 h1 g1 p => hv F1 H1 w1 d (a0.grow h1 g1) g1 p⟩
theorem st_not (ha : ST (gx X T) Wx X a ta) : ST (gx X T) Wx X (.UnaryOp .Not a pos) (tNo ta) :=
  PT.imp (pt_not ha) fun σ H Q ⟨F, ad, ρ, w, a0, p⟩ => tst_in a0 p fun F1 H1 w1 b a1 _ p1 => p1 F1 H1 a1.hp Grow.refl
/-- a chain of and, or as a test -/
abbrev SW (G : Gx) (Wx : WX) (X : Cx) (e : Expr) (f : Ev → Wd → R Bool) : Prop := PW X e (tT G Wx f)
theorem PW.imp {X : Cx} {e : Expr} {t t' : TT} (h : PW X e t) (i : ∀ σ H Q, t' σ H Q → t σ H Q) : PW X e t' := ⟨fun wh pins s σ H Q I q => h.run wh pins s σ H Q I (i σ H Q q)⟩
theorem sw_and1 (ha : ST (gx X T) Wx X a ta) : SW (gx X T) Wx X (.BoolOp .And [a] pos) ta := pw_and1 ha
theorem sw_or1 (ha : ST (gx X T) Wx X a ta) : SW (gx X T) Wx X (.BoolOp .Or [a] pos) ta := pw_or1 ha
theorem sw_and (ha : ST (gx X T) Wx X a ta) (hb : SW (gx X T) Wx X (.BoolOp .And (b :: rest) pos) tb) : SW (gx X T) Wx X (.BoolOp .And (a :: b :: rest) pos) (tAn ta tb) :=
  PW.imp (pw_and ha hb) fun σ H Q ⟨F, ad, ρ, w, a0, p⟩ => tst_in a0 p fun F1 H1 w1 k a1 _ p1 => by
    cases k with
    | true => rw [if_pos rfl] at p1 ⊢; exact ⟨F1, ad, ρ, w1, a1, p1⟩
    | false => rw [if_neg Bool.false_ne_true] at p1 ⊢; exact p1 F1 H1 a1.hp Grow.refl
theorem sw_or (ha : ST (gx X T) Wx X a ta) (hb : SW (gx X T) Wx X (.BoolOp .Or (b :: rest) pos) tb) : SW (gx X T) Wx X (.BoolOp .Or (a :: b :: rest) pos) (tOo ta tb) :=
  PW.imp (pw_or ha hb) fun σ H Q ⟨F, ad, ρ, w, a0, p⟩ => tst_in a0 p fun F1 H1 w1 k a1 _ p1 => by
    cases k with
    | true => rw [if_pos rfl] at p1 ⊢; exact p1 F1 H1 a1.hp Grow.refl
    | false => rw [if_neg Bool.false_ne_true] at p1 ⊢; exact ⟨F1, ad, ρ, w1, a1, p1⟩
/-- and, or, not as values -/
def eAn (fa fb : Ef) : Ef := fun ρ w => (fa ρ w).bind fun d w1 => match truth d with
  | some true => fb ρ w1
  | some false => .ok d w1
  | none => .bad
def eOo (fa fb : Ef) : Ef := fun ρ w => (fa ρ w).bind fun d w1 => match truth d with
  | some true => .ok d w1
  | some false => fb ρ w1
  | none => .bad
def eNo (fa : Ef) : Ef := fun ρ w => (fa ρ w).bind fun d w1 => R.of w1 ((truth d).map fun b => .bool (!b))
theorem se_one {op} (h : SE (gx X T) Wx X a fa) : SE (gx X T) Wx X (.BoolOp op [a] pos) fa := pe_one h
theorem se_and (ha : SE (gx X T) Wx X a fa) (hb : SE (gx X T) Wx X (.BoolOp .And (b :: rest) pos) fb) : SE (gx X T) Wx X (.BoolOp .And (a :: b :: rest) pos) (eAn fa fb) :=
  PE.imp (pe_andT ha hb) fun σ H Q ⟨F, ad, ρ, w, a0, p⟩ => unE_in a0 p fun F1 H1 w1 x dx a1 _ rx p1 => by
    cases e : truth dx with
    | none => simp only [e] at p1; exact p1.elim
    | some k =>
      refine ⟨k, truV a1.hp rx.b e, ?_⟩
      cases k with
      | true => simp only [e] at p1; rw [if_pos rfl]; exact ⟨F1, ad, ρ, w1, a1, p1⟩
      | false => simp only [e] at p1; rw [if_neg Bool.false_ne_true]; exact p1 F1 H1 a1.hp Grow.refl _ rx
theorem se_or (ha : SE (gx X T) Wx X a fa) (hb : SE (gx X T) Wx X (.BoolOp .Or (b :: rest) pos) fb) : SE (gx X T) Wx X (.BoolOp .Or (a :: b :: rest) pos) (eOo fa fb) :=
  PE.imp (pe_orT ha hb) fun σ H Q ⟨F, ad, ρ, w, a0, p⟩ => unE_in a0 p fun F1 H1 w1 x dx a1 _ rx p1 => by
    cases e : truth dx with
    | none => simp only [e] at p1; exact p1.elim
    | some k =>
      refine ⟨k, truV a1.hp rx.b e, ?_⟩
      cases k with
      | true => simp only [e] at p1; rw [if_pos rfl]; exact p1 F1 H1 a1.hp Grow.refl _ rx
      | false => simp only [e] at p1; rw [if_neg Bool.false_ne_true]; exact ⟨F1, ad, ρ, w1, a1, p1⟩
theorem se_not (ha : SB (gx X T) Wx X a fa) : SE (gx X T) Wx X (.UnaryOp .Not a pos) (eNo fa) :=
  PE.imp (pe_notT ha) fun σ H Q ⟨F, ad, ρ, w, a0, p⟩ => un_in a0 p fun F1 H1 w1 x dx a1 _ rx p1 => by
    cases e : truth dx with
    | none => rw [e] at p1; exact p1.elim
    | some k => rw [e] at p1; exact ⟨k, truV a1.hp rx e, p1 F1 H1 a1.hp Grow.refl _ (.bl _)⟩
def eIf (tc : Ev → Wd → R Bool) (fa fb : Ef) : Ef := fun ρ w => (tc ρ w).bind fun k w1 => if k = true then fa ρ w1 else fb ρ w1
theorem se_if {tc : Ev → Wd → R Bool} (hc : ST (gx X T) Wx X c tc) (ha : SE (gx X T) Wx X a fa) (hb : SE (gx X T) Wx X b fb) : SE (gx X T) Wx X (.IfExp c a b pos) (eIf tc fa fb) :=
  PE.imp (pe_ifExp hc ha hb) fun σ H Q ⟨F, ad, ρ, w, a0, p⟩ => tst_in a0 p fun F1 H1 w1 k a1 _ p1 => by
    cases k with
    | true => rw [if_pos rfl] at p1 ⊢; exact ⟨F1, ad, ρ, w1, a1, p1⟩
    | false => rw [if_neg Bool.false_ne_true] at p1 ⊢; exact ⟨F1, ad, ρ, w1, a1, p1⟩
/-- the value of a test -/
def eT (ta : Ev → Wd → R Bool) : Ef := fun ρ w => (ta ρ w).bind fun b w1 => .ok (.bool b) w1
end

/-! ### names, constants -/
section
variable {X : Cx} {T : Addr → Prop} {Wx : WX} {x : Str} {pos : Pos}
def eV (i : Nat) : Ef := fun ρ w => match ρ[i]? with
  | some (some (.v d)) => .ok d w
  | _ => .bad
def eBw (i : Nat) : Ef := fun ρ w => match ρ[i]? with
  | some (some (.v d)) => .ok d w
  | some (some (.ol ds)) => .ok (.list ds) w
  | some (some (.od kvs)) => .ok (.dict kvs) w
  | _ => .bad
def eC (d : D) : Ef := fun _ w => .ok d w
theorem se_var {i : Nat} (h : PE X (.Name x pos) (tVar i)) : SE (gx X T) Wx X (.Name x pos) (eV i) := PE.imp h fun σ H Q ⟨F, ad, ρ, w, a0, p⟩ => by
  unfold eV at p
  split at p
  · rename_i d e
    obtain ⟨v, h1, h2⟩ := a0.en.sl i _ e
    exact ⟨v, h1, p F H a0.hp Grow.refl v h2⟩
  · exact p.elim
theorem sb_var {i : Nat} (h : PE X (.Name x pos) (tVar i)) : SB (gx X T) Wx X (.Name x pos) (eBw i) := PE.imp h fun σ H Q ⟨F, ad, ρ, w, a0, p⟩ => by
  unfold eBw at p
  split at p
  · rename_i d e
    obtain ⟨v, h1, h2⟩ := a0.en.sl i _ e
    exact ⟨v, h1, p F H a0.hp Grow.refl v (.inl h2)⟩
  · rename_i ds e
    obtain ⟨v, h1, h2⟩ := a0.en.sl i _ e
    exact ⟨v, h1, p F H a0.hp Grow.refl v (.inr (.inl ⟨_, rfl, h2⟩))⟩
  · rename_i ds e
    obtain ⟨v, h1, h2⟩ := a0.en.sl i _ e
    exact ⟨v, h1, p F H a0.hp Grow.refl v (.inr (.inr ⟨_, rfl, h2⟩))⟩
  · exact p.elim
theorem se_c {e : Expr} {v : V} {d : D} (h : PE X e (tC v)) (r : ∀ K F, Rep K F v d) : SE (gx X T) Wx X e (eC d) := PE.imp h fun σ H Q ⟨F, ad, ρ, w, a0, p⟩ => p F H a0.hp Grow.refl v (r _ _)
theorem se_int {i j} : SE (gx X T) Wx X (.Constant (.int i) j pos) (eC (.int i)) := se_c pe_int fun _ _ => .int i
theorem se_bl {i j} : SE (gx X T) Wx X (.Constant (.bool i) j pos) (eC (.bool i)) := se_c pe_bl fun _ _ => .bl i
theorem se_non {j} : SE (gx X T) Wx X (.Constant .none j pos) (eC .none) := se_c pe_non fun _ _ => .non
theorem se_str {i j} : SE (gx X T) Wx X (.Constant (.str i) j pos) (eC (.str i)) := se_c pe_str fun _ _ => .str i
/-- a module's constant -/
theorem se_glob {v : V} {u : Value} {d : D} (hg : Gl X x) (hm : X.mg x = some u) (r : RelV v u) (rd : ∀ F, Rep X.K F v d) (hd : (x == ("__debug__" : Str)) = false := by decide) : SE (gx X T) Wx X (.Name x pos) (eC d) :=
  PE.imp (pe_glob hg hm r hd) fun σ H Q ⟨F, ad, ρ, w, a0, p⟩ => p F H a0.hp Grow.refl v (rd _)
end

/-! ### argument lists, displays -/
section
variable {X : Cx} {T : Addr → Prop} {Wx : WX} {e : Expr} {es : List Expr} {fe : Ef} {fs : Ev → Wd → R (List D)} {pos : Pos}
abbrev SL (G : Gx) (Wx : WX) (X : Cx) (es : List Expr) (f : Ev → Wd → R (List D)) : Prop := PA X es (tL G Wx f)
def lN : Ev → Wd → R (List D) := fun _ w => .ok [] w
def lC (fe : Ef) (fs : Ev → Wd → R (List D)) : Ev → Wd → R (List D) := fun ρ w => (fe ρ w).bind fun d w1 => (fs ρ w1).bind fun ds w2 => .ok (d :: ds) w2
theorem sl_nil : SL (gx X T) Wx X [] lN := PA.imp pa_nil fun σ H Q ⟨F, ad, ρ, w, a0, p⟩ => p F H a0.hp Grow.refl [] .nil
theorem sl_cons (he : SE (gx X T) Wx X e fe) (hs : SL (gx X T) Wx X es fs) (hst : starEach (e :: es) X.env = (false, eval e X.env) :: starEach es X.env := by rfl) : SL (gx X T) Wx X (e :: es) (lC fe fs) :=
  PA.imp (pa_cons he hs hst) fun σ H Q ⟨F, ad, ρ, w, a0, p⟩ => unE_in a0 p fun F1 H1 w1 x dx a1 g1 rx p1 =>
    ⟨F1, ad, ρ, w1, a1, (p1.bind a1.hp).imp fun ds w2 F2 H2 h2 g2 p2 vs r => p2 F2 H2 h2 Grow.refl (x :: vs) (.cons (rx.mono g2.mono) r)⟩
def eTup (fs : Ev → Wd → R (List D)) : Ef := fun ρ w => (fs ρ w).bind fun ds w1 => if ds.length ≤ sizeLine then .ok (.tuple ds) w1 else .bad
def oLst (fs : Ev → Wd → R (List D)) : Ev → Wd → R (List D) := fun ρ w => (fs ρ w).bind fun ds w1 => if ds.length ≤ sizeLine then .ok ds w1 else .bad
theorem lst_in {G : Gx} {σ : St} {F H : Hp} {ad : Option Addr} {ρ : Ev} {w : Wd} {β : Type} {k : List D → Wd → R β} {P : β → Wd → Hp → Hp → Prop} {Z : List V → Hp → Prop} (a0 : At G F ad σ H ρ w) (h : Post G Wx σ F ad H P ((fs ρ w).bind k))
    (hv : ∀ F1 H1 w1 xs ds, At G F1 ad σ H1 ρ w1 → Grow G ad F H F1 H1 → RepL G.K F1 xs ds → Post G Wx σ F1 ad H1 P (k ds w1) → Z xs H1) : tL G Wx fs σ H Z :=
  ⟨F, ad, ρ, w, a0, (h.bind a0.hp).imp fun d w1 F1 H1 h1 g1 p v r => hv F1 H1 w1 v d (a0.grow h1 g1) g1 r p⟩
theorem se_tup {x1} (h : SL (gx X T) Wx X es fs) : SE (gx X T) Wx X (.Tuple es x1 pos) (eTup fs) :=
  PE.imp (pe_tup h) fun σ H Q ⟨F, ad, ρ, w, a0, p⟩ => lst_in a0 p fun F1 H1 w1 xs ds a1 g1 r p1 => by
    by_cases hz : ds.length ≤ sizeLine
    · rw [if_pos hz] at p1
      refine ⟨by rw [r.length]; exact hz, fun q hq => ?_⟩
      obtain ⟨h2, g2⟩ := a1.hp.newF (o := .tup xs) hq
      exact p1 _ _ h2 g2 _ (.tup (.inl (.inl upd_same)) (r.mono g2.mono))
    · rw [if_neg hz] at p1; exact p1.elim
theorem so_lst (h : SL (gx X T) Wx X es fs) : SO (gx X T) Wx X (.List es pos) (oLst fs) :=
  PE.imp (pe_lst h) fun σ H Q ⟨F, ad, ρ, w, a0, p⟩ => lst_in a0 p fun F1 H1 w1 xs ds a1 g1 r p1 => by
    by_cases hz : ds.length ≤ sizeLine
    · rw [if_pos hz] at p1
      refine ⟨by rw [r.length]; exact hz, fun q hq => ?_⟩
      obtain ⟨h2, g2⟩ := a1.hp.new (o := .lst xs) hq
      have hH : H q = none := by
        cases z : H q with
        | none => rfl
        | some o => exact absurd hq (by
            by_cases ht : T q
            · exact a1.hp.tN q ht
            · by_cases hd : ad = some q
              · exact a1.hp.dN q hd
              · rw [g1.keep q o z ht hd]; exact fun y => by cases y)
      have hF : F1 q = none := by
        cases z : F1 q with
        | none => rfl
        | some o => rw [a1.hp.sub q o z] at hq; cases hq
      exact p1 _ _ h2 g2 q xs hH upd_same hF r
    · rw [if_neg hz] at p1; exact p1.elim
/-- a new list is frozen -/
def eFz (fo : Ev → Wd → R (List D)) : Ef := fun ρ w => (fo ρ w).bind fun ds w1 => .ok (.list ds) w1
theorem HeapOk.freeze {G : Gx} {F H : Hp} {ad : Option Addr} {w : Wd} {a : Addr} {vs : List V} (h : HeapOk G F ad H w) (e : H a = some (.lst vs)) (n : F a = none) (hd : ad ≠ some a) : HeapOk G (upd F a (.lst vs)) ad H w := by
  have mono : ∀ b o', F b = some o' → upd F a (.lst vs) b = some o' := fun b o' q => by rw [upd_ne (ne_of_none q n)]; exact q
  refine ⟨fun b o q => ?_, fun b q => ?_, fun b q => ?_, h.tab, fun b q => ?_⟩
  · by_cases hb : b = a
    · subst hb; rw [upd_same] at q; rw [e]; exact q
    · rw [upd_ne hb] at q; exact h.sub b o q
  · by_cases hb : b = a
    · subst hb; exact notT h e fun ps z => by cases z
    · rw [upd_ne hb] at q; exact h.noT b q
  · by_cases hb : b = a
    · subst hb; exact hd
    · rw [upd_ne hb] at q; exact h.noD b q
  · obtain ⟨us, h1, h2⟩ := h.dr b q
    exact ⟨us, h1, h2.mono mono⟩
theorem se_of {fo : Ev → Wd → R (List D)} (h : SO (gx X T) Wx X e fo) : SE (gx X T) Wx X e (eFz fo) :=
  PE.imp h fun σ H Q ⟨F, ad, ρ, w, a0, p⟩ => ⟨F, ad, ρ, w, a0, by
    unfold eFz at p
    cases q : fo ρ w with
    | bad => rw [q] at p; exact p
    | exc c w1 => rw [q] at p; exact p
    | ok ds w1 =>
      rw [q] at p
      intro F1 H1 h1 g1 a vs ha e n r
      have hd : ad ≠ some a := fun z => a0.hp.dN a z ha
      have mono : ∀ b o', F1 b = some o' → upd F1 a (.lst vs) b = some o' := fun b o' q => by rw [upd_ne (ne_of_none q n)]; exact q
      refine p (upd F1 a (.lst vs)) H1 (h1.freeze e n hd) ⟨fun b o' q => mono b o' (g1.mono b o' q), g1.keep, fun b q1 q2 => ?_⟩ (.ref a) (.lst upd_same (r.mono mono))
      rw [upd_ne fun z => by subst z; exact q1 ha]
      exact g1.nf b q1 q2⟩
end
end DL

set_option Elab.async false
set_option linter.all false
set_option maxRecDepth 100000
set_option maxHeartbeats 2000000
namespace DL
open PySem PySem.Spec PySem.SeqAt PySem.W L2

section
variable {X : Cx} {T : Addr → Prop}

/-- the answer is a flat value, the heap as it was -/
theorem fin0 {F H : Hp} {ad : Option Addr} {w : Wd} {Q : VK} {d : D} {v : V} (hp : HeapOk (gx X T) F ad H w) (q : ∀ v F' H', HeapOk (gx X T) F' ad H' w → Grow (gx X T) ad F H F' H' → Rep X.K F' v d → Q v H') (r : Rep X.K F v d) : Q v H := q v F H hp Grow.refl r
/-- the answer is a new tuple, a new list -/
theorem finT {F H : Hp} {ad : Option Addr} {w : Wd} {Q : VK} {ds : List D} {vs : List V} (hp : HeapOk (gx X T) F ad H w) (q : ∀ v F' H', HeapOk (gx X T) F' ad H' w → Grow (gx X T) ad F H F' H' → Rep X.K F' v (.tuple ds) → Q v H') (r : RepL X.K F vs ds) :
    ∀ p, H p = none → Q (.ref p) (upd H p (.tup vs)) := fun p hn => by
  obtain ⟨h2, g2⟩ := hp.newF (o := .tup vs) hn
  exact q _ _ _ h2 g2 (.tup (.inl (.inl upd_same)) (r.mono g2.mono))
theorem finL {F H : Hp} {ad : Option Addr} {w : Wd} {Q : VK} {ds : List D} {vs : List V} (hp : HeapOk (gx X T) F ad H w) (q : ∀ v F' H', HeapOk (gx X T) F' ad H' w → Grow (gx X T) ad F H F' H' → Rep X.K F' v (.list ds) → Q v H') (r : RepL X.K F vs ds) :
    ∀ p, H p = none → Q (.ref p) (upd H p (.lst vs)) := fun p hn => by
  obtain ⟨h2, g2⟩ := hp.newF (o := .lst vs) hn
  exact q _ _ _ h2 g2 (.lst upd_same (r.mono g2.mono))

def dAdd : D → D → Option D
  | .int i, .int j => some (.int (i + j))
  | .list xs, .list ys => if xs.length + ys.length ≤ sizeLine then some (.list (xs ++ ys)) else none
  | .tuple xs, .tuple ys => if xs.length + ys.length ≤ sizeLine then some (.tuple (xs ++ ys)) else none
  | .str x, .str y => if x.length + y.length ≤ sizeLine then some (.str (x ++ y)) else none
  | _, _ => none
theorem od_add : OpD X T (binaryOp .Add) dAdd := by
  intro pins s σ H x y v u Q F ad w dx dy d I rx ry hp bx bY e q
  unfold dAdd at e
  split at e
  · cases e
    rw [bx.int] at rx
    rw [bY.int] at ry
    exact op_add pins s σ H _ _ v u Q I rx ry ⟨_, _, rfl, rfl, fin0 hp q (.int _)⟩
  · rename_i xs ys
    split at e
    · cases e
      obtain ⟨a, vs, rfl, ha, ra⟩ := bx.list hp
      obtain ⟨b, us, rfl, hb, rb⟩ := bY.list hp
      exact op_cat pins s σ H _ _ v u Q I rx ry ⟨a, b, vs, us, rfl, rfl, ha, hb, by rw [ra.length, rb.length]; assumption, finL hp q (ra.append rb)⟩
    · cases e
  · rename_i xs ys
    split at e
    · cases e
      obtain ⟨a, vs, rfl, ha, ra⟩ := bx.tup hp
      obtain ⟨b, us, rfl, hb, rb⟩ := bY.tup hp
      have sx : Rep X.K F (.ref a) (.tuple xs) := by rcases bx with h | ⟨_, h, _⟩ | ⟨_, h, _⟩ <;> first | exact h | cases h
      have sy : Rep X.K F (.ref b) (.tuple ys) := by rcases bY with h | ⟨_, h, _⟩ | ⟨_, h, _⟩ <;> first | exact h | cases h
      refine op_catA pins s σ H _ _ v u Q I rx ry ⟨a, b, vs, us, rfl, rfl, ha, hb, by rw [ra.length, rb.length]; assumption, fun z => ?_, fun _ z => ?_, fun _ _ => finT hp q (ra.append rb)⟩
      · subst z; cases ra; exact fin0 hp q (by simpa using sy)
      · subst z; cases rb; exact fin0 hp q (by simpa using sx)
    · cases e
  · split at e
    · cases e
      rw [bx.str] at rx
      rw [bY.str] at ry
      exact op_add_str pins s σ H _ _ v u Q I rx ry ⟨_, _, rfl, rfl, by assumption, fin0 hp q (.str _)⟩
    · cases e
  · cases e
/-- two ints, an int -/
theorem od_int {f : Value → Value → Sem Value} {C : Int → Int → Prop} {g : Int → Int → Int} {go : D → D → Option D} (h : OpR X f (rI C fun i j => .int (g i j)))
    (hg : ∀ dx dy d, go dx dy = some d → ∃ i j, dx = .int i ∧ dy = .int j ∧ C i j ∧ d = .int (g i j)) : OpD X T f go := by
  intro pins s σ H x y v u Q F ad w dx dy d I rx ry hp bx bY e q
  obtain ⟨i, j, rfl, rfl, c, rfl⟩ := hg dx dy d e
  rw [bx.int] at rx
  rw [bY.int] at ry
  exact h pins s σ H _ _ v u Q I rx ry ⟨i, j, rfl, rfl, c, fin0 hp q (.int _)⟩
theorem od_int0 {f : Value → Value → Sem Value} {g : Int → Int → Int} {go : D → D → Option D} (h : OpR X f (rI0 fun i j => .int (g i j)))
    (hg : ∀ dx dy d, go dx dy = some d → ∃ i j, dx = .int i ∧ dy = .int j ∧ d = .int (g i j)) : OpD X T f go := by
  intro pins s σ H x y v u Q F ad w dx dy d I rx ry hp bx bY e q
  obtain ⟨i, j, rfl, rfl, rfl⟩ := hg dx dy d e
  rw [bx.int] at rx
  rw [bY.int] at ry
  exact h pins s σ H _ _ v u Q I rx ry ⟨i, j, rfl, rfl, fin0 hp q (.int _)⟩
def onI (c : Int → Int → Bool) (g : Int → Int → Int) : D → D → Option D
  | .int i, .int j => if c i j = true then some (.int (g i j)) else none
  | _, _ => none
theorem onI_out {c : Int → Int → Bool} {g : Int → Int → Int} : ∀ dx dy d, onI c g dx dy = some d → ∃ i j, dx = .int i ∧ dy = .int j ∧ c i j = true ∧ d = .int (g i j) := by
  intro dx dy d e
  unfold onI at e
  split at e
  · split at e
    · cases e; exact ⟨_, _, rfl, rfl, by assumption, rfl⟩
    · cases e
  · cases e
def dSub : D → D → Option D := onI (fun _ _ => true) (· - ·)
theorem od_sub : OpD X T (binaryOp .Sub) dSub := od_int0 op_sub fun dx dy d e => let ⟨i, j, h1, h2, _, h3⟩ := onI_out dx dy d e; ⟨i, j, h1, h2, h3⟩
def mulOk (i j : Int) : Bool := decide (i.natAbs < 18446744073709551616) || decide (j.natAbs < 18446744073709551616) || decide (i.natAbs.log2 + j.natAbs.log2 < 1000000)
def repOk (k : Int) (n : Nat) : Bool := decide (-(2 ^ 63) ≤ k) && decide (k < 2 ^ 63) && decide (n * k.toNat ≤ sizeLine)
def rep {α : Type} (k : Int) (xs : List α) : List α := (List.replicate k.toNat xs).flatten
def dMul : D → D → Option D
  | .int i, .int j => if mulOk i j = true then some (.int (i * j)) else none
  | .list xs, .int k => if repOk k xs.length = true then some (.list (rep k xs)) else none
  | .tuple xs, .int k => if xs ≠ [] ∧ 2 ≤ k ∧ k ≤ 1000 ∧ xs.length ≤ 1000 then some (.tuple (rep k xs)) else none
  | _, _ => none
theorem od_mul : OpD X T (binaryOp .Mult) dMul := by
  intro pins s σ H x y v u Q F ad w dx dy d I rx ry hp bx bY e q
  unfold dMul at e
  split at e
  · rename_i i j
    split at e
    · rename_i hm
      cases e
      rw [bx.int] at rx
      rw [bY.int] at ry
      by_cases h1 : i.natAbs < 18446744073709551616
      · exact op_mul pins s σ H _ _ v u Q I rx ry ⟨_, _, rfl, rfl, .inl (by constructor <;> omega), fin0 hp q (.int _)⟩
      · by_cases h2 : j.natAbs < 18446744073709551616
        · exact op_mul pins s σ H _ _ v u Q I rx ry ⟨_, _, rfl, rfl, .inr (by constructor <;> omega), fin0 hp q (.int _)⟩
        · have h3 : i.natAbs.log2 + j.natAbs.log2 < 1000000 := by simpa [mulOk, h1, h2] using hm
          exact op_mulW pins s σ H _ _ v u Q I rx ry ⟨_, _, rfl, rfl, h3, fin0 hp q (.int _)⟩
    · cases e
  · rename_i xs k
    split at e
    · rename_i hm
      cases e
      obtain ⟨a, vs, rfl, ha, ra⟩ := bx.list hp
      rw [bY.int] at ry
      have hm' : (-(2 ^ 63) ≤ k ∧ k < 2 ^ 63) ∧ xs.length * k.toNat ≤ sizeLine := by simpa [repOk] using hm
      exact op_rep pins s σ H _ _ v u Q I rx ry ⟨a, k, vs, rfl, rfl, ha, hm'.1.1, hm'.1.2, by rw [ra.length]; exact hm'.2, finL hp q (ra.flatRep _)⟩
    · cases e
  · rename_i xs k
    split at e
    · rename_i hm
      cases e
      obtain ⟨a, vs, rfl, ha, ra⟩ := bx.tup hp
      rw [bY.int] at ry
      exact op_repT pins s σ H _ _ v u Q I rx ry ⟨a, k, vs, rfl, rfl, ha, fun z => hm.1 (by subst z; cases ra; rfl), hm.2.1, hm.2.2.1, by rw [ra.length]; exact hm.2.2.2, finT hp q (ra.flatRep _)⟩
    · cases e
  · cases e
def divOk (_ j : Int) : Bool := decide (j ≠ 0) && (decide (j.natAbs < 1073741824) || (decide (0 < j) && decide (j.natAbs.log2 < 9000)))
def dFdiv : D → D → Option D := onI divOk Int.fdiv
theorem od_fdiv : OpD X T (binaryOp .FloorDiv) dFdiv := by
  intro pins s σ H x y v u Q F ad w dx dy d I rx ry hp bx bY e q
  obtain ⟨i, j, rfl, rfl, c, rfl⟩ := onI_out dx dy d e
  rw [bx.int] at rx
  rw [bY.int] at ry
  have hc : j ≠ 0 ∧ (j.natAbs < 1073741824 ∨ (0 < j ∧ j.natAbs.log2 < 9000)) := by simpa [divOk] using c
  rcases hc.2 with h | h
  · exact op_fdivN pins s σ H _ _ v u Q I rx ry ⟨i, j, rfl, rfl, ⟨hc.1, h⟩, fin0 hp q (.int _)⟩
  · refine op_fdivW pins s σ H _ _ v u Q I rx ry ⟨i, j, rfl, rfl, ⟨h.1, h.2⟩, fin0 hp q ?_⟩
    rw [Int.fdiv_eq_ediv_of_nonneg i (by omega)]
    exact .int _
def dMod : D → D → Option D := onI (fun _ j => decide (j ≠ 0)) Int.fmod
theorem od_mod : OpD X T (binaryOp .Mod) dMod := od_int op_modN fun dx dy d e => let ⟨i, j, h1, h2, c, h3⟩ := onI_out dx dy d e; ⟨i, j, h1, h2, of_decide_eq_true c, h3⟩
def powOk (i j : Int) : Bool := decide (0 ≤ j) && decide (j ≤ 1000000) && decide (i.natAbs < 18446744073709551616)
def dPow : D → D → Option D := onI powOk fun i j => i ^ j.toNat
theorem od_pow : OpD X T (binaryOp .Pow) dPow := od_int op_pow fun dx dy d e => let ⟨i, j, h1, h2, c, h3⟩ := onI_out dx dy d e; ⟨i, j, h1, h2, by
  have c' : (0 ≤ j ∧ j ≤ 1000000) ∧ i.natAbs < 18446744073709551616 := by simpa [powOk] using c
  exact ⟨c'.1.1, c'.1.2, c'.2⟩, h3⟩
def dShl : D → D → Option D := onI powOk fun i j => i * 2 ^ j.toNat
theorem od_shl : OpD X T (binaryOp .LShift) dShl := od_int op_shl fun dx dy d e => let ⟨i, j, h1, h2, c, h3⟩ := onI_out dx dy d e; ⟨i, j, h1, h2, by
  have c' : (0 ≤ j ∧ j ≤ 1000000) ∧ i.natAbs < 18446744073709551616 := by simpa [powOk] using c
  exact ⟨c'.1.1, c'.1.2, c'.2⟩, h3⟩
def dShr : D → D → Option D := onI (fun _ j => decide (0 ≤ j)) fun i j => i / 2 ^ j.toNat
theorem od_shr : OpD X T (binaryOp .RShift) dShr := od_int op_shr fun dx dy d e => let ⟨i, j, h1, h2, c, h3⟩ := onI_out dx dy d e; ⟨i, j, h1, h2, of_decide_eq_true c, h3⟩
def dAnd : D → D → Option D := onI (fun _ _ => true) Builtin.bitAnd
theorem od_and : OpD X T (binaryOp .BitAnd) dAnd := od_int0 op_and fun dx dy d e => let ⟨i, j, h1, h2, _, h3⟩ := onI_out dx dy d e; ⟨i, j, h1, h2, h3⟩
def dXor : D → D → Option D := onI (fun _ _ => true) Builtin.bitXor
theorem od_xor : OpD X T (binaryOp .BitXor) dXor := od_int0 op_xor fun dx dy d e => let ⟨i, j, h1, h2, _, h3⟩ := onI_out dx dy d e; ⟨i, j, h1, h2, h3⟩

/-! comparisons -/
def onB (g : Int → Int → Bool) : D → D → Option D
  | .int i, .int j => some (.bool (g i j))
  | _, _ => none
theorem od_ordI {f : Value → Value → Sem Value} {g : Int → Int → Bool} (h : OpR X f (rI0 fun i j => .bl (g i j))) : OpD X T f (onB g) := by
  intro pins s σ H x y v u Q F ad w dx dy d I rx ry hp bx bY e q
  unfold onB at e
  split at e
  · cases e
    rw [bx.int] at rx
    rw [bY.int] at ry
    exact h pins s σ H _ _ v u Q I rx ry ⟨_, _, rfl, rfl, fin0 hp q (.bl _)⟩
  · cases e
def dLt : D → D → Option D := onB fun i j => decide (i < j)
def dLe : D → D → Option D := onB fun i j => decide (i ≤ j)
def dGt : D → D → Option D := onB fun i j => decide (j < i)
def dGe : D → D → Option D := onB fun i j => decide (j ≤ i)
theorem od_lt : OpD X T (compareOp .Lt) dLt := od_ordI op_lt
theorem od_le : OpD X T (compareOp .LtE) dLe := od_ordI op_le
theorem od_gt : OpD X T (compareOp .Gt) dGt := od_ordI op_gt
theorem od_ge : OpD X T (compareOp .GtE) dGe := od_ordI op_ge
/-- read as data -/
theorem RepB.reads {pins : List (Addr × Obj)} {σ : St} {H : Hp} {s : Shared} {F : Hp} {ad : Option Addr} {w : Wd} {x : V} {v : Value} {d : D} (I : Inv X pins σ H s) (hp : HeapOk (gx X T) F ad H w) (r : RepB (gx X T) F ad H x d) (p : d.plain = true) (rv : RelV x v) :
    ∃ as, Reads s.heap v d as := Dp.reads I d x v (r.dp hp p) rv
/-- == -/
def eqOk (a b : D) : Bool := a.plain && b.plain && decide (min a.depth b.depth ≤ 64)
def dEq (a b : D) : Option D := if eqOk a b = true then some (.bool (PyData.eqv a b)) else none
def dNe (a b : D) : Option D := if eqOk a b = true then some (.bool (!PyData.eqv a b)) else none
theorem eqOk_out {a b : D} (h : eqOk a b = true) : a.plain = true ∧ b.plain = true ∧ min a.depth b.depth ≤ 64 := by
  unfold eqOk at h
  rw [Bool.and_eq_true_iff, Bool.and_eq_true_iff] at h
  exact ⟨h.1.1, h.1.2, of_decide_eq_true h.2⟩
theorem od_eq (hu : X.A.units + 100 < cLine) : OpD X T (compareOp .Eq) dEq := by
  intro pins s σ H x y v u Q F ad w dx dy d I rx ry hp bx bY e q
  unfold dEq at e
  split at e
  · rename_i h
    cases e
    obtain ⟨h1, h2, h3⟩ := eqOk_out h
    obtain ⟨as, r1⟩ := bx.reads I hp h1 rx
    obtain ⟨bs, r2⟩ := bY.reads I hp h2 ry
    exact eq_plain r1 r2 h1 h2 (by omega) ⟨.bl _, H, I, rfl, fin0 hp q (.bl _)⟩
  · cases e
theorem od_ne (hu : X.A.units + 100 < cLine) : OpD X T (compareOp .NotEq) dNe := by
  intro pins s σ H x y v u Q F ad w dx dy d I rx ry hp bx bY e q
  unfold dNe at e
  split at e
  · rename_i h
    cases e
    obtain ⟨h1, h2, h3⟩ := eqOk_out h
    obtain ⟨as, r1⟩ := bx.reads I hp h1 rx
    obtain ⟨bs, r2⟩ := bY.reads I hp h2 ry
    exact ne_plain r1 r2 h1 h2 (by omega) ⟨.bl _, H, I, rfl, fin0 hp q (.bl _)⟩
  · cases e
/-- in a list, in a tuple -/
def inOk (a : D) (xs : List D) : Bool := a.plain && PyData.plainAll xs && decide (min (PyData.depthAll xs) a.depth ≤ 64)
def dIn : D → D → Option D
  | a, .list xs => if inOk a xs = true then some (.bool (xs.any fun z => PyData.eqv z a)) else none
  | a, .tuple xs => if inOk a xs = true then some (.bool (xs.any fun z => PyData.eqv z a)) else none
  | _, _ => none
def dNin : D → D → Option D
  | a, .list xs => if inOk a xs = true then some (.bool (!xs.any fun z => PyData.eqv z a)) else none
  | a, .tuple xs => if inOk a xs = true then some (.bool (!xs.any fun z => PyData.eqv z a)) else none
  | _, _ => none
theorem inOk_out {a : D} {xs : List D} (h : inOk a xs = true) : a.plain = true ∧ PyData.plainAll xs = true ∧ min (PyData.depthAll xs) a.depth ≤ 64 := by
  unfold inOk at h
  rw [Bool.and_eq_true_iff, Bool.and_eq_true_iff] at h
  exact ⟨h.1.1, h.1.2, of_decide_eq_true h.2⟩
theorem od_in (hu : X.A.units + 100 < cLine) : OpD X T (compareOp .In) dIn := by
  intro pins s σ H x y v u Q F ad w dx dy d I rx ry hp bx bY e q
  unfold dIn at e
  split at e
  · split at e
    · rename_i h
      cases e
      obtain ⟨h1, h2, h3⟩ := inOk_out h
      obtain ⟨as, r1⟩ := bx.reads I hp h1 rx
      obtain ⟨bs, r2⟩ := bY.reads I hp (by simpa [PyData.plain] using h2) ry
      exact in_list_data r2 r1 h2 h1 (by omega) ⟨.bl _, H, I, rfl, fin0 hp q (.bl _)⟩
    · cases e
  · split at e
    · rename_i h
      cases e
      obtain ⟨h1, h2, h3⟩ := inOk_out h
      obtain ⟨as, r1⟩ := bx.reads I hp h1 rx
      obtain ⟨bs, r2⟩ := bY.reads I hp (by simpa [PyData.plain] using h2) ry
      exact in_tuple_data r2 r1 h2 h1 (by omega) ⟨.bl _, H, I, rfl, fin0 hp q (.bl _)⟩
    · cases e
  · cases e
theorem od_nin (hu : X.A.units + 100 < cLine) : OpD X T (compareOp .NotIn) dNin := by
  intro pins s σ H x y v u Q F ad w dx dy d I rx ry hp bx bY e q
  unfold dNin at e
  split at e
  · split at e
    · rename_i h
      cases e
      obtain ⟨h1, h2, h3⟩ := inOk_out h
      obtain ⟨as, r1⟩ := bx.reads I hp h1 rx
      obtain ⟨bs, r2⟩ := bY.reads I hp (by simpa [PyData.plain] using h2) ry
      exact notIn_list_data r2 r1 h2 h1 (by omega) ⟨.bl _, H, I, rfl, fin0 hp q (.bl _)⟩
    · cases e
  · split at e
    · rename_i h
      cases e
      obtain ⟨h1, h2, h3⟩ := inOk_out h
      obtain ⟨as, r1⟩ := bx.reads I hp h1 rx
      obtain ⟨bs, r2⟩ := bY.reads I hp (by simpa [PyData.plain] using h2) ry
      exact notIn_tuple_data r2 r1 h2 h1 (by omega) ⟨.bl _, H, I, rfl, fin0 hp q (.bl _)⟩
    · cases e
  · cases e
/-- is None, is True, is False -/
def isNon : D → Bool
  | .none => true
  | _ => false
def dIs : D → D → Option D
  | d, .none => some (.bool (isNon d))
  | .bool a, .bool b => some (.bool (a == b))
  | _, _ => none
def dNis : D → D → Option D
  | d, .none => some (.bool (!isNon d))
  | .bool a, .bool b => some (.bool (a != b))
  | _, _ => none
theorem isNone_V {F H : Hp} {ad : Option Addr} {w : Wd} {x : V} {d : D} (hp : HeapOk (gx X T) F ad H w) (r : RepB (gx X T) F ad H x d) : decide (x = .non) = isNon d := by
  rcases r with r | ⟨ds, rfl, a, vs, rfl, _⟩ | ⟨kvs, rfl, a, o, rfl, _⟩
  · cases r <;> simp [isNon]
  · simp [isNon]
  · simp [isNon]
theorem od_is : OpD X T (compareOp .Is) dIs := by
  intro pins s σ H x y v u Q F ad w dx dy d I rx ry hp bx bY e q
  unfold dIs at e
  split at e
  · cases e
    rw [bY.none] at ry
    exact op_isN pins s σ H _ _ v u Q I rx ry ⟨rfl, by rw [isNone_V hp bx]; exact fin0 hp q (.bl _)⟩
  · cases e
    rw [bx.bool] at rx
    rw [bY.bool] at ry
    exact op_isBl pins s σ H _ _ v u Q I rx ry ⟨_, _, rfl, rfl, by rw [← Bool.beq_eq_decide_eq]; exact fin0 hp q (.bl _)⟩
  · cases e
theorem od_nis : OpD X T (compareOp .IsNot) dNis := by
  intro pins s σ H x y v u Q F ad w dx dy d I rx ry hp bx bY e q
  unfold dNis at e
  split at e
  · rename_i dd
    cases e
    rw [bY.none] at ry
    refine op_notN pins s σ H _ _ v u Q I rx ry ⟨rfl, ?_⟩
    rw [isNone_V hp bx]
    exact fin0 hp q (.bl _)
  · cases e
    rw [bx.bool] at rx
    rw [bY.bool] at ry
    exact op_notBl pins s σ H _ _ v u Q I rx ry ⟨_, _, rfl, rfl, by rw [← Bool.beq_eq_decide_eq]; exact fin0 hp q (.bl _)⟩
  · cases e
end
end DL

set_option Elab.async false
set_option linter.all false
set_option maxRecDepth 100000
set_option maxHeartbeats 2000000
namespace DL
open PySem PySem.Spec PySem.SeqAt PySem.W L2

/-! ### subscripts and slices -/
theorem RepB.tupR {G : Gx} {F H : Hp} {ad : Option Addr} {v : V} {ds : List D} (h : RepB G F ad H v (.tuple ds)) : Rep G.K F v (.tuple ds) := by
  rcases h with h | ⟨_, h, _⟩ | ⟨_, h, _⟩
  · exact h
  · cases h
  · cases h
theorem RepL.atI {K : PySem.W.Frag} {F : Hp} {vs : List V} {ds : List D} {i : Int} {d : D} (h : RepL K F vs ds) (e : L2.atI ds i = some d) : ∃ v, L2.atI vs i = some v ∧ Rep K F v d := by
  unfold L2.atI at e ⊢
  rw [h.length]
  cases q : ixN ds.length i with
  | none => rw [q] at e; cases e
  | some j =>
    rw [q] at e
    obtain ⟨v, h1, h2⟩ := h.get j (show ds[j]? = some d from e)
    exact ⟨v, h1, h2⟩
def cut {α : Type} (xs : List α) (lo hi : Option Int) : List α := (xs.drop (HT.sIx xs.length 0 lo)).take (HT.sIx xs.length xs.length hi - HT.sIx xs.length 0 lo)
theorem RepL.cut {K : PySem.W.Frag} {F : Hp} {vs : List V} {ds : List D} (h : RepL K F vs ds) (lo hi : Option Int) : RepL K F (cutV vs lo hi) (cut ds lo hi) := by
  unfold cutV DL.cut
  rw [h.length]
  exact (h.drop _).take _
section
variable {X : Cx} {T : Addr → Prop} {Wx : WX} {a b c e : Expr} {fa fb fc : Ef} {pos p2 : Pos}
def dIx : D → D → Option D
  | .list ds, .int i => L2.atI ds i
  | .tuple ds, .int i => L2.atI ds i
  | _, _ => none
theorem ix_d : IxR X (rD X T dIx) := by
  intro value slice pins s σ H x y v u Q I rx ry ⟨F, ad, w, dx, dy, d, hp, bx, bY, e, q⟩ hs
  unfold dIx at e
  split at e
  · obtain ⟨a, vs, rfl, ha, ra⟩ := bx.list hp
    rw [bY.int] at ry
    obtain ⟨z, h1, h2⟩ := ra.atI e
    exact ix_list value slice pins s σ H _ _ v u Q I rx ry ⟨a, vs, _, z, rfl, rfl, SqL.of ha, h1, fin0 hp q h2⟩ hs
  · obtain ⟨a, vs, rfl, ha, ra⟩ := bx.tup hp
    rw [bY.int] at ry
    obtain ⟨z, h1, h2⟩ := ra.atI e
    exact ix_tup value slice pins s σ H _ _ v u Q I rx ry ⟨a, vs, _, z, rfl, rfl, ha, h1, fin0 hp q h2⟩ hs
  · cases e
theorem se_ix (ha : SB (gx X T) Wx X a fa) (hb : SB (gx X T) Wx X b fb) (hs : PlainIx b := by exact fun _ _ => rfl) : SE (gx X T) Wx X (.Subscript a b pos) (eBin dIx fa fb) :=
  PE.imp (pe_ix ix_d ha hb hs) fun σ H Q ⟨F, ad, ρ, w, a0, p⟩ => bin_in a0 p fun F1 H1 w1 x y dx dy a1 _ rx ry p1 => rD_in a1.hp rx ry p1
/-- a slice's part -/
def tP (G : Gx) (Wx : WX) (f : Ev → Wd → R (Option Int)) : TO := fun σ H Q => ∃ F ad ρ w, At G F ad σ H ρ w ∧ Post G Wx σ F ad H (fun o _ _ H' => Q o H') (f ρ w)
theorem PO.imp {X : Cx} {e : Option Expr} {t t' : TO} (h : PO X e t) (i : ∀ σ H Q, t' σ H Q → t σ H Q) : PO X e t' := ⟨fun pins s σ H Q I q => h.run pins s σ H Q I (i σ H Q q)⟩
def pN : Ev → Wd → R (Option Int) := fun _ w => .ok none w
def intOf : D → Option Int
  | .int i => some i
  | _ => none
def pS (fa : Ef) : Ev → Wd → R (Option Int) := fun ρ w => (fa ρ w).bind fun d w1 => R.of w1 ((intOf d).map some)
theorem sp_none : PO X none (tP (gx X T) Wx pN) := PO.imp po_none fun σ H Q ⟨F, ad, ρ, w, a0, p⟩ => p F H a0.hp Grow.refl
theorem sp_some (ha : SB (gx X T) Wx X a fa) : PO X (some a) (tP (gx X T) Wx (pS fa)) := PO.imp (po_some ha) fun σ H Q ⟨F, ad, ρ, w, a0, p⟩ =>
  un_in a0 p fun F1 H1 w1 x dx a1 _ rx p1 => by
    cases dx with
    | int i => exact ⟨i, rx.int, p1 F1 H1 a1.hp Grow.refl⟩
    | _ => exact p1.elim
def dCut (lo hi : Option Int) : D → Option D
  | .list ds => some (.list (cut ds lo hi))
  | .tuple ds => some (.tuple (cut ds lo hi))
  | _ => none
def rCut (X : Cx) (T : Addr → Prop) : V → Option Int → Option Int → Hp → VK → Prop := fun x lo hi H Q => ∃ F ad w dx d, HeapOk (gx X T) F ad H w ∧ RepB (gx X T) F ad H x dx ∧ dCut lo hi dx = some d ∧
  ∀ v F' H', HeapOk (gx X T) F' ad H' w → Grow (gx X T) ad F H F' H' → Rep X.K F' v d → Q v H'
theorem sIx_eq (n : Nat) {lo hi : Option Int} (h1 : HT.sIx n 0 lo = 0) (h2 : HT.sIx n n hi = n) {α : Type} (ds : List α) (hn : ds.length = n) : cut ds lo hi = ds := by
  subst hn
  unfold cut
  rw [h1, h2]
  simp
theorem sl_d : SlR X (rCut X T) := by
  intro pins s σ H x v vl vu lo hi sl Q I rx hs pl pu ⟨F, ad, w, dx, d, hp, bx, e, q⟩
  unfold dCut at e
  split at e
  · cases e
    obtain ⟨a, vs, rfl, ha, ra⟩ := bx.list hp
    exact sl_list pins s σ H _ v vl vu lo hi sl Q I rx hs pl pu ⟨a, vs, rfl, SqL.of ha, finL hp q (ra.cut lo hi)⟩
  · rename_i ds
    cases e
    obtain ⟨a, vs, rfl, ha, ra⟩ := bx.tup hp
    have sx : Rep X.K F (.ref a) (.tuple ds) := by rcases bx with h | ⟨_, h, _⟩ | ⟨_, h, _⟩ <;> first | exact h | cases h
    refine sl_tupA pins s σ H _ v vl vu lo hi sl Q I rx hs pl pu ⟨a, vs, rfl, ha, fun hw => ?_, fun _ => finT hp q (ra.cut lo hi)⟩
    rw [ra.length] at hw
    rw [sIx_eq ds.length hw.1 hw.2 ds rfl] at q
    exact fin0 hp q sx
  · cases e
def eCut (fa : Ef) (fl fh : Ev → Wd → R (Option Int)) : Ef := fun ρ w => (fa ρ w).bind fun d w1 => (fl ρ w1).bind fun lo w2 => (fh ρ w2).bind fun hi w3 => R.of w3 (dCut lo hi d)
theorem se_cut {lo hi : Option Expr} {fl fh : Ev → Wd → R (Option Int)} (ha : SB (gx X T) Wx X a fa) (hl : PO X lo (tP (gx X T) Wx fl)) (hh : PO X hi (tP (gx X T) Wx fh)) : SE (gx X T) Wx X (.Subscript a (.Slice lo hi none p2) pos) (eCut fa fl fh) :=
  PE.imp (pe_slice sl_d ha hl hh) fun σ H Q ⟨F, ad, ρ, w, a0, p⟩ => un_in a0 p fun F1 H1 w1 x dx a1 _ rx p1 =>
    ⟨F1, ad, ρ, w1, a1, (p1.bind a1.hp).imp fun l w2 F2 H2 h2 g2 p2 => ⟨F2, ad, ρ, w2, a1.grow h2 g2, (p2.bind h2).imp fun h w3 F3 H3 h3 g3 p3 => by
      cases q : dCut l h dx with
      | none => rw [q] at p3; exact p3.elim
      | some d =>
        rw [q] at p3
        exact ⟨F3, ad, w3, dx, d, h3, (rx.grow a1.hp g2).grow h2 g3, q, fun v F' H' h1 g1 r => p3 F' H' h1 g1 v r⟩⟩⟩
end

/-! ### built-in functions by values -/
inductive RepBs (G : Gx) (F : Hp) (ad : Option Addr) (H : Hp) : List V → List D → Prop
  | nil : RepBs G F ad H [] []
  | cons {v : V} {vs : List V} {d : D} {ds : List D} : RepB G F ad H v d → RepBs G F ad H vs ds → RepBs G F ad H (v :: vs) (d :: ds)
theorem RepBs.grow {G : Gx} {F H F' H' : Hp} {ad : Option Addr} {w : Wd} (hp : HeapOk G F ad H w) (g : Grow G ad F H F' H') : ∀ {vs : List V} {ds : List D}, RepBs G F ad H vs ds → RepBs G F' ad H' vs ds
  | _, _, .nil => .nil
  | _, _, .cons r t => .cons (r.grow hp g) (RepBs.grow hp g t)
def tLb (G : Gx) (Wx : WX) (f : Ev → Wd → R (List D)) : TA := fun σ H Q => ∃ F ad ρ w, At G F ad σ H ρ w ∧ Post G Wx σ F ad H (fun ds _ F' H' => ∀ vs, RepBs G F' ad H' vs ds → Q vs H') (f ρ w)
abbrev SLb (G : Gx) (Wx : WX) (X : Cx) (es : List Expr) (f : Ev → Wd → R (List D)) : Prop := PA X es (tLb G Wx f)
section
variable {X : Cx} {T : Addr → Prop} {Wx : WX} {e : Expr} {es : List Expr} {fe : Ef} {fs : Ev → Wd → R (List D)} {pos p : Pos} {x : Str} {id : String}
theorem lb_nil : SLb (gx X T) Wx X [] lN := PA.imp pa_nil fun σ H Q ⟨F, ad, ρ, w, a0, p⟩ => p F H a0.hp Grow.refl [] .nil
theorem lb_cons (he : SB (gx X T) Wx X e fe) (hs : SLb (gx X T) Wx X es fs) (hst : starEach (e :: es) X.env = (false, eval e X.env) :: starEach es X.env := by rfl) : SLb (gx X T) Wx X (e :: es) (lC fe fs) :=
  PA.imp (pa_cons he hs hst) fun σ H Q ⟨F, ad, ρ, w, a0, p⟩ => un_in a0 p fun F1 H1 w1 x dx a1 g1 rx p1 =>
    ⟨F1, ad, ρ, w1, a1, (p1.bind a1.hp).imp fun ds w2 F2 H2 h2 g2 p2 vs r => p2 F2 H2 h2 Grow.refl (x :: vs) (.cons (rx.grow a1.hp g2) r)⟩
theorem lstb_in {G : Gx} {σ : St} {F H : Hp} {ad : Option Addr} {ρ : Ev} {w : Wd} {β : Type} {k : List D → Wd → R β} {P : β → Wd → Hp → Hp → Prop} {Z : List V → Hp → Prop} (a0 : At G F ad σ H ρ w) (h : Post G Wx σ F ad H P ((fs ρ w).bind k))
    (hv : ∀ F1 H1 w1 xs ds, At G F1 ad σ H1 ρ w1 → Grow G ad F H F1 H1 → RepBs G F1 ad H1 xs ds → Post G Wx σ F1 ad H1 P (k ds w1) → Z xs H1) : tLb G Wx fs σ H Z :=
  ⟨F, ad, ρ, w, a0, (h.bind a0.hp).imp fun d w1 F1 H1 h1 g1 p v r => hv F1 H1 w1 v d (a0.grow h1 g1) g1 r p⟩
/-- a call by values: the answer is data -/
def rCD (X : Cx) (T : Addr → Prop) (g : List D → Option D) : List V → Hp → VK → Prop := fun xs H Q => ∃ F ad w ds d, HeapOk (gx X T) F ad H w ∧ RepBs (gx X T) F ad H xs ds ∧ g ds = some d ∧
  ∀ v F' H', HeapOk (gx X T) F' ad H' w → Grow (gx X T) ad F H F' H' → Rep X.K F' v d → Q v H'
/-- the answer is a new list -/
def rCO (X : Cx) (T : Addr → Prop) (g : List D → Option (List D)) : List V → Hp → VK → Prop := fun xs H Q => ∃ F ad w ds es, HeapOk (gx X T) F ad H w ∧ RepBs (gx X T) F ad H xs ds ∧ g ds = some es ∧
  ∀ p vs, H p = none → RepL X.K F vs es → Q (.ref p) (upd H p (.lst vs))
def eCall (g : List D → Option D) (fs : Ev → Wd → R (List D)) : Ef := fun ρ w => (fs ρ w).bind fun ds w1 => R.of w1 (g ds)
def oCall (g : List D → Option (List D)) (fs : Ev → Wd → R (List D)) : Ev → Wd → R (List D) := fun ρ w => (fs ρ w).bind fun ds w1 => R.of w1 (g ds)
theorem rCD_in {g : List D → Option D} {σ : St} {H : Hp} {Q : VK} (h : tD (gx X T) Wx (eCall g fs) σ H Q) : tCB (rCD X T g) (tLb (gx X T) Wx fs) σ H Q := by
  obtain ⟨F, ad, ρ, w, a0, p⟩ := h
  refine lstb_in a0 p fun F1 H1 w1 xs ds a1 g1 r p1 => ?_
  cases q : g ds with
  | none => rw [q] at p1; exact p1.elim
  | some d => rw [q] at p1; exact ⟨F1, ad, w1, ds, d, a1.hp, r, q, fun v F' H' h1 g1 r => p1 F' H' h1 g1 v r⟩
theorem fresh_of {G : Gx} {F H F1 H1 : Hp} {ad : Option Addr} {w w1 : Wd} {q : Addr} (h : HeapOk G F ad H w) (h1 : HeapOk G F1 ad H1 w1) (g1 : Grow G ad F H F1 H1) (hq : H1 q = none) : H q = none ∧ F1 q = none := by
  refine ⟨?_, ?_⟩
  · cases z : H q with
    | none => rfl
    | some o => exact absurd hq (by
        by_cases ht : G.T q
        · exact h1.tN q ht
        · by_cases hd : ad = some q
          · exact h1.dN q hd
          · rw [g1.keep q o z ht hd]; exact fun y => by cases y)
  · cases z : F1 q with
    | none => rfl
    | some o => rw [h1.sub q o z] at hq; cases hq
theorem rCO_in {g : List D → Option (List D)} {σ : St} {H : Hp} {Q : VK} (h : tO (gx X T) Wx (oCall g fs) σ H Q) : tCB (rCO X T g) (tLb (gx X T) Wx fs) σ H Q := by
  obtain ⟨F, ad, ρ, w, a0, p⟩ := h
  refine lstb_in a0 p fun F1 H1 w1 xs ds a1 g1 r p1 => ?_
  cases q : g ds with
  | none => rw [q] at p1; exact p1.elim
  | some d =>
    rw [q] at p1
    refine ⟨F1, ad, w1, ds, d, a1.hp, r, q, fun p vs hp rr => ?_⟩
    obtain ⟨h2, g2⟩ := a1.hp.new (o := .lst vs) hp
    obtain ⟨n1, n2⟩ := fresh_of a0.hp a1.hp g1 hp
    exact p1 _ _ h2 g2 p vs n1 upd_same n2 rr
theorem se_callB {g : List D → Option D} (hc : CallR X (.builtin id) (rCD X T g)) (hg : Gl X x) (hm : X.mg x = none) (hv : bootBuiltins x = some (.builtin id)) (ha : SLb (gx X T) Wx X (e :: es) fs) (hn : x ≠ "__name__" := by decide) (hdb : (x == ("__debug__" : Str)) = false := by decide)
    (he : starEach (e :: es) X.env = (false, eval e X.env) :: starEach es X.env := by rfl) (hpl : (backTo pos (starEach es X.env)).any (·.1) = false := by rfl) : SE (gx X T) Wx X (.Call (.Name x p) (e :: es) [] pos) (eCall g fs) :=
  PE.imp (pe_callB hc hg hm hv ha hn hdb he hpl) fun σ H Q h => rCD_in h
theorem se_callTy {g : List D → Option D} (hc : CallR X (.type id) (rCD X T g)) (hg : Gl X x) (hm : X.mg x = none) (hv : bootBuiltins x = some (.type id)) (ha : SLb (gx X T) Wx X (e :: es) fs) (hn : x ≠ "__name__" := by decide) (hdb : (x == ("__debug__" : Str)) = false := by decide)
    (he : starEach (e :: es) X.env = (false, eval e X.env) :: starEach es X.env := by rfl) (hpl : (backTo pos (starEach es X.env)).any (·.1) = false := by rfl) : SE (gx X T) Wx X (.Call (.Name x p) (e :: es) [] pos) (eCall g fs) :=
  PE.imp (pe_callTy hc hg hm hv ha hn hdb he hpl) fun σ H Q h => rCD_in h
theorem so_callB {g : List D → Option (List D)} (hc : CallR X (.builtin id) (rCO X T g)) (hg : Gl X x) (hm : X.mg x = none) (hv : bootBuiltins x = some (.builtin id)) (ha : SLb (gx X T) Wx X (e :: es) fs) (hn : x ≠ "__name__" := by decide) (hdb : (x == ("__debug__" : Str)) = false := by decide)
    (he : starEach (e :: es) X.env = (false, eval e X.env) :: starEach es X.env := by rfl) (hpl : (backTo pos (starEach es X.env)).any (·.1) = false := by rfl) : SO (gx X T) Wx X (.Call (.Name x p) (e :: es) [] pos) (oCall g fs) :=
  PE.imp (pe_callB hc hg hm hv ha hn hdb he hpl) fun σ H Q h => rCO_in h
theorem so_callTy {g : List D → Option (List D)} (hc : CallR X (.type id) (rCO X T g)) (hg : Gl X x) (hm : X.mg x = none) (hv : bootBuiltins x = some (.type id)) (ha : SLb (gx X T) Wx X (e :: es) fs) (hn : x ≠ "__name__" := by decide) (hdb : (x == ("__debug__" : Str)) = false := by decide)
    (he : starEach (e :: es) X.env = (false, eval e X.env) :: starEach es X.env := by rfl) (hpl : (backTo pos (starEach es X.env)).any (·.1) = false := by rfl) : SO (gx X T) Wx X (.Call (.Name x p) (e :: es) [] pos) (oCall g fs) :=
  PE.imp (pe_callTy hc hg hm hv ha hn hdb he hpl) fun σ H Q h => rCO_in h
/-- an imported built-in function (gcd) -/
theorem se_callF {g : List D → Option D} (hc : CallR X (.builtin id) (rCD X T g)) (hg : Gl X x) (hm : X.mg x = some (.builtin id)) (ha : SLb (gx X T) Wx X (e :: es) fs) (hdb : (x == ("__debug__" : Str)) = false := by decide)
    (he : starEach (e :: es) X.env = (false, eval e X.env) :: starEach es X.env := by rfl) (hpl : (backTo pos (starEach es X.env)).any (·.1) = false := by rfl) : SE (gx X T) Wx X (.Call (.Name x p) (e :: es) [] pos) (eCall g fs) :=
  PE.imp (pe_callBfun hc hg hm ha hdb he hpl) fun σ H Q h => rCD_in h
end

section
variable {X : Cx} {T : Addr → Prop}
def one? : List D → Option D
  | [d] => some d
  | _ => none
def gLen : List D → Option D
  | [.list ds] => some (.int ds.length)
  | [.tuple ds] => some (.int ds.length)
  | [.dict ks] => some (.int ks.length)
  | _ => none
theorem DKp.length {K : PySem.W.Frag} {F : Hp} : ∀ {kvs : List (Key × V)} {kds : List (D × D)}, DKp K F kvs kds → kvs.length = kds.length
  | _, _, .nil => rfl
  | _, _, .cons _ t => congrArg (· + 1) (DKp.length t)
/-- the object of a dict -/
theorem RepB.dict {G : Gx} {F H : Hp} {ad : Option Addr} {w : Wd} {v : V} {kds : List (D × D)} (hp : HeapOk G F ad H w) (h : RepB G F ad H v (.dict kds)) : ∃ a kvs, v = .ref a ∧ Rd H a (.dK kvs) ∧ DKp G.K F kvs kds := by
  rcases h with h | ⟨ds, e, h⟩ | ⟨kvs, e, a, o, h1, _, _, h2, h3⟩
  · cases h with
    | dK e r => exact ⟨_, _, rfl, .inr ⟨_, hp.sub _ _ e⟩, DKp.of r⟩
  · cases e
  · cases e
    obtain ⟨kvs, rfl, p⟩ := h3
    exact ⟨a, kvs, h1, .inl h2, p⟩
theorem cd_len : CallR X (.builtin "len") (rCD X T gLen) := by
  intro pins s σ H xs us Q I r ⟨F, ad, w, ds, d, hp, rb, e, q⟩
  unfold gLen at e
  split at e
  · cases e
    cases rb with
    | cons b t =>
      cases t
      obtain ⟨a, vs, rfl, ha, ra⟩ := b.list hp
      exact call_len_seq pins s σ H _ us Q I r ⟨a, vs, rfl, .inl (SqL.of ha), by rw [ra.length]; exact fin0 hp q (.int _)⟩
  · cases e
    cases rb with
    | cons b t =>
      cases t
      obtain ⟨a, vs, rfl, ha, ra⟩ := b.tup hp
      exact call_len_seq pins s σ H _ us Q I r ⟨a, vs, rfl, .inr ha, by rw [ra.length]; exact fin0 hp q (.int _)⟩
  · cases e
    cases rb with
    | cons b t =>
      cases t
      obtain ⟨a, kvs, rfl, ha, hk⟩ := b.dict hp
      obtain ⟨u, rfl, ru⟩ := vals1 r
      cases ru
      exact d_len I ha fun t s' I' => ⟨.int kvs.length, H, I', ⟨t, rfl⟩, by rw [hk.length]; exact fin0 hp q (.int _)⟩
  · cases e
def gAbs : List D → Option D
  | [.int i] => some (.int (if i < 0 then -i else i))
  | _ => none
theorem cd_abs : CallR X (.builtin "abs") (rCD X T gAbs) := by
  intro pins s σ H xs us Q I r ⟨F, ad, w, ds, d, hp, rb, e, q⟩
  unfold gAbs at e
  split at e
  · cases e
    cases rb with
    | cons b t =>
      cases t
      rw [b.int] at r
      exact call_abs pins s σ H _ us Q I r ⟨_, rfl, fin0 hp q (.int _)⟩
  · cases e
def gInt : List D → Option D
  | [.int i] => some (.int i)
  | [.bool b] => some (.int (if b then 1 else 0))
  | _ => none
theorem cd_int : CallR X (.type "int") (rCD X T gInt) := by
  intro pins s σ H xs us Q I r ⟨F, ad, w, ds, d, hp, rb, e, q⟩
  unfold gInt at e
  split at e
  · cases e
    cases rb with
    | cons b t =>
      cases t
      rw [b.int] at r
      exact call_int1 pins s σ H _ us Q I r (.inl ⟨_, rfl, fin0 hp q (.int _)⟩)
  · cases e
    cases rb with
    | cons b t =>
      cases t
      rw [b.bool] at r
      exact call_int1 pins s σ H _ us Q I r (.inr ⟨_, rfl, fin0 hp q (.int _)⟩)
  · cases e
def gGcd : List D → Option D
  | [.int i, .int j] => some (.int (Nat.gcd i.natAbs j.natAbs : Nat))
  | _ => none
theorem cd_gcd : CallR X (.builtin "math.gcd") (rCD X T gGcd) := by
  intro pins s σ H xs us Q I r ⟨F, ad, w, ds, d, hp, rb, e, q⟩
  unfold gGcd at e
  split at e
  · cases e
    cases rb with
    | cons b t =>
      cases t with
      | cons b2 t =>
        cases t
        rw [b.int, b2.int] at r
        exact cr_gcd pins s σ H _ us Q I r ⟨_, _, rfl, fin0 hp q (.int _)⟩
  · cases e
/-- tuple(x), list(x) of a list or a tuple -/
def gTuple : List D → Option D
  | [.list ds] => some (.tuple ds)
  | [.tuple ds] => some (.tuple ds)
  | _ => none
theorem cd_tuple : CallR X (.type "tuple") (rCD X T gTuple) := by
  intro pins s σ H xs us Q I r ⟨F, ad, w, ds, d, hp, rb, e, q⟩
  unfold gTuple at e
  split at e
  · cases e
    cases rb with
    | cons b t =>
      cases t
      obtain ⟨a, vs, rfl, ha, ra⟩ := b.list hp
      exact call_tuple_of pins s σ H _ us Q I r ⟨a, vs, rfl, .inl ⟨SqL.of ha, finT hp q ra⟩⟩
  · cases e
    cases rb with
    | cons b t =>
      cases t
      have sx := b.tupR
      obtain ⟨a, vs, rfl, ha, ra⟩ := b.tup hp
      exact call_tuple_of pins s σ H _ us Q I r ⟨a, vs, rfl, .inr ⟨ha, fin0 hp q sx⟩⟩
  · cases e
def gList : List D → Option (List D)
  | [.list ds] => some ds
  | [.tuple ds] => some ds
  | _ => none
theorem co_list : CallR X (.type "list") (rCO X T gList) := by
  intro pins s σ H xs us Q I r ⟨F, ad, w, ds, d, hp, rb, e, q⟩
  unfold gList at e
  split at e
  · cases e
    cases rb with
    | cons b t =>
      cases t
      obtain ⟨a, vs, rfl, ha, ra⟩ := b.list hp
      exact call_list_of pins s σ H _ us Q I r ⟨a, vs, rfl, .inl (SqL.of ha), fun l hl => q l vs hl ra⟩
  · cases e
    cases rb with
    | cons b t =>
      cases t
      obtain ⟨a, vs, rfl, ha, ra⟩ := b.tup hp
      exact call_list_of pins s σ H _ us Q I r ⟨a, vs, rfl, .inr ha, fun l hl => q l vs hl ra⟩
  · cases e
end
end DL

set_option Elab.async false
set_option linter.all false
set_option maxRecDepth 100000
set_option maxHeartbeats 2000000
namespace DL
open PySem PySem.Spec PySem.SeqAt PySem.W L2

/-- a built-in type's test -/
def isTy (T : String) : D → Option Bool := fun d => if d.plain = true then
    (match T with
     | "int" => some d.isInt
     | "bool" => some d.isBool
     | "str" => some d.isStr
     | "list" => some d.isList
     | "tuple" => some d.isTuple
     | _ => none)
  else none
section
variable {X : Cx} {T : Addr → Prop} {Wx : WX} {a : Expr} {fa : Ef} {pos p q : Pos}
/-- isinstance's reading for one type -/
def rIs (X : Cx) (T : Addr → Prop) (ty : String) : List V → Hp → VK → Prop := fun xs H Q => ∃ F ad w x d b, xs = [x, .ty ty] ∧ HeapOk (gx X T) F ad H w ∧ RepB (gx X T) F ad H x d ∧ isTy ty d = some b ∧ Q (.bl b) H
theorem cr_is (ty : String) : CallR X (.builtin "isinstance") (rIs X T ty) := by
  intro pins s σ H xs us Q I r ⟨F, ad, w, x, d, b, e, hp, rx, eb, hq⟩
  subst e
  obtain ⟨u1, u2, rfl, r1, r2⟩ := vals2 r
  cases (show u2 = Value.type ty from r2)
  unfold isTy at eb
  split at eb
  · rename_i hpl
    obtain ⟨as, rr⟩ := rx.reads I hp hpl r1
    split at eb
    · cases eb; exact isinstance_int_data rr fun tk _ => ⟨.bl _, H, I.tok tk, rfl, hq⟩
    · cases eb; exact isinstance_bool_data rr fun tk _ => ⟨.bl _, H, I.tok tk, rfl, hq⟩
    · cases eb; exact isinstance_str_data rr fun tk _ => ⟨.bl _, H, I.tok tk, rfl, hq⟩
    · cases eb; exact isinstance_list_data rr fun tk _ => ⟨.bl _, H, I.tok tk, rfl, hq⟩
    · cases eb; exact isinstance_tuple_data rr fun tk _ => ⟨.bl _, H, I.tok tk, rfl, hq⟩
    · cases eb
  · cases eb
def eIs (ty : String) (fa : Ef) : Ef := fun ρ w => (fa ρ w).bind fun d w1 => R.of w1 ((isTy ty d).map .bool)
theorem se_is {tn : Str} {ty : String} (hg : Gl X "isinstance") (hm : X.mg "isinstance" = none) (hb : bootBuiltins "isinstance" = some (.builtin "isinstance")) (hgt : Gl X tn) (hmt : X.mg tn = none) (hbt : bootBuiltins tn = some (.type ty)) (ha : SB (gx X T) Wx X a fa)
    (hnt : tn ≠ "__name__" := by decide) (hdt : (tn == ("__debug__" : Str)) = false := by decide)
    (h1 : starEach [a, .Name tn q] X.env = (false, eval a X.env) :: starEach [.Name tn q] X.env := by rfl) (h2 : starEach [.Name tn q] X.env = (false, eval (.Name tn q) X.env) :: starEach [] X.env := by rfl)
    (hpl : (backTo pos (starEach [.Name tn q] X.env)).any (·.1) = false := by rfl) : SE (gx X T) Wx X (.Call (.Name "isinstance" p) [a, .Name tn q] [] pos) (eIs ty fa) :=
  PE.imp (pe_callB (cr_is (T := T) ty) hg hm hb (pa_cons ha (pa_cons (pe_bltn (v := .ty ty) hgt hmt hbt rfl hnt hdt) pa_nil h2) h1) (by decide) (by decide) h1 hpl) fun σ H Q ⟨F, ad, ρ, w, a0, p⟩ =>
    un_in a0 p fun F1 H1 w1 x dx a1 _ rx p1 => by
      show rIs X T ty [x, .ty ty] H1 Q
      cases e : isTy ty dx with
      | none => rw [e] at p1; exact p1.elim
      | some b => rw [e] at p1; exact ⟨F1, ad, w1, x, dx, b, rfl, a1.hp, rx, e, p1 F1 H1 a1.hp Grow.refl _ (.bl b)⟩

/-! ### least and greatest of data -/
def alikeAllB (xs : List D) : Bool := (xs.all fun x => xs.all fun y => alike x y) && xs.all fun x => !isNon x
theorem alikeAllB_out {xs : List D} (h : alikeAllB xs = true) : AlikeAll xs := by
  unfold alikeAllB at h
  rw [Bool.and_eq_true_iff, List.all_eq_true, List.all_eq_true] at h
  refine ⟨fun x hx y hy => List.all_eq_true.mp (h.1 x hx) y hy, fun x hx e => ?_⟩
  have := h.2 x hx
  subst e
  simp [isNon] at this
def mmOk (xs : List D) : Bool := alikeAllB xs && PyData.plainAll xs && decide (PyData.depthAll xs ≤ 64)
def gMin : List D → Option D
  | [.list (x :: xs)] => if mmOk (x :: xs) = true then some (minD x xs) else none
  | [.tuple (x :: xs)] => if mmOk (x :: xs) = true then some (minD x xs) else none
  | [.int i, .int j] => some (.int (if j < i then j else i))
  | _ => none
def gMax : List D → Option D
  | [.list (x :: xs)] => if mmOk (x :: xs) = true then some (maxD x xs) else none
  | [.tuple (x :: xs)] => if mmOk (x :: xs) = true then some (maxD x xs) else none
  | [.int i, .int j] => some (.int (if j > i then j else i))
  | _ => none
theorem mmOk_out {xs : List D} (h : mmOk xs = true) : AlikeAll xs ∧ PyData.plainAll xs = true ∧ PyData.depthAll xs ≤ 64 := by
  unfold mmOk at h
  rw [Bool.and_eq_true_iff, Bool.and_eq_true_iff] at h
  exact ⟨alikeAllB_out h.1.1, h.1.2, of_decide_eq_true h.2⟩
theorem plain_of_mem : ∀ {xs : List D} {x : D}, PyData.plainAll xs = true → x ∈ xs → x.plain = true
  | y :: ys, x, h, hx => by
    have h' := Bool.and_eq_true_iff.mp (show (PyData.plain y && PyData.plainAll ys) = true by simpa [PyData.plainAll] using h)
    rcases List.mem_cons.mp hx with e | hx
    · rw [e]; exact h'.1
    · exact plain_of_mem h'.2 hx
/-- the item at a place that reads as d is d -/
theorem item_is {pins : List (Addr × Obj)} {σ : St} {H : Hp} {s : Shared} {F : Hp} {ad : Option Addr} {w : Wd} {vs : List V} {its : List Value} {ds : List D} {i : Nat} {v : Value} {h' : Heap} {d : D} {bs : List Addr} (I : L2.Inv X pins σ H s) (hp : HeapOk (gx X T) F ad H w)
    (rl : RepL X.K F vs ds) (rv : Vals vs its) (hpl : PyData.plainAll ds = true) (hv : its[i]? = some v) (rd : Reads h' v d bs) (k : ∀ b o, s.heap.get? b = some o → h'.get? b = some o) : ∃ x, RelV x v ∧ Rep X.K F x d := by
  have hi : i < vs.length := by rw [rv.length]; exact (List.getElem?_eq_some_iff.mp hv).1
  obtain ⟨u, h1, h2⟩ := rv.get (List.getElem?_eq_getElem hi)
  rw [hv] at h1
  cases h1
  obtain ⟨e, h3, h4⟩ := rl.at i (List.getElem?_eq_getElem hi)
  have pe := plain_of_mem hpl (List.mem_of_getElem? h3)
  obtain ⟨as, r2⟩ := (Rep.b h4).reads (T := T) I hp pe h2
  have := plain_unique e d v as bs pe (reads_keeps k r2) rd
  subst this
  exact ⟨_, h2, h4⟩
theorem cd_min (hc : X.calm = true) (hu : X.A.units + 100 < cLine) : CallR X (.builtin "min") (rCD X T gMin) := by
  intro pins s σ H xs us Q I r ⟨F, ad, w, ds, d, hp, rb, e, q⟩
  unfold gMin at e
  split at e
  · split at e
    · rename_i hm
      obtain ⟨h1, h2, h3⟩ := mmOk_out hm
      cases e
      cases rb with
      | cons b t =>
        cases t
        obtain ⟨a, vs, rfl, ha, ra⟩ := b.list hp
        obtain ⟨its, rv, pl, _⟩ := I.list (SqL.of (K := X.K) ha)
        obtain ⟨as, hr⟩ := Dp.readsAll I _ _ its (ra.dp hp.sub h2) rv
        rw [Vals.ref1 r]
        refine min_list_data (I.ok.hd hc) pl.isList (by simpa using hr) h1 (by omega) fun i v h' tk bs hv rd k => ?_
        obtain ⟨x, r1, r2⟩ := item_is I hp ra rv h2 (by simpa using hv) rd k
        exact ⟨x, H, I.kept k, r1, fin0 hp q r2⟩
    · cases e
  · split at e
    · rename_i hm
      obtain ⟨h1, h2, h3⟩ := mmOk_out hm
      cases e
      cases rb with
      | cons b t =>
        cases t
        obtain ⟨a, vs, rfl, ha, ra⟩ := b.tup hp
        obtain ⟨its, rv, pl, _⟩ := I.tuple ha
        obtain ⟨as, hr⟩ := Dp.readsAll I _ _ its (ra.dp hp.sub h2) rv
        rw [Vals.ref1 r]
        refine min_tuple_data (I.ok.hd hc) pl (by simpa using hr) h1 (by omega) fun i v h' tk bs hv rd k => ?_
        obtain ⟨x, r1, r2⟩ := item_is I hp ra rv h2 (by simpa using hv) rd k
        exact ⟨x, H, I.kept k, r1, fin0 hp q r2⟩
    · cases e
  · cases e
    cases rb with
    | cons b t =>
      cases t with
      | cons b2 t =>
        cases t
        rw [b.int, b2.int] at r
        exact call_min2 hc pins s σ H _ us Q I r ⟨_, _, rfl, fin0 hp q (.int _)⟩
  · cases e
theorem cd_max (hc : X.calm = true) (hu : X.A.units + 100 < cLine) : CallR X (.builtin "max") (rCD X T gMax) := by
  intro pins s σ H xs us Q I r ⟨F, ad, w, ds, d, hp, rb, e, q⟩
  unfold gMax at e
  split at e
  · split at e
    · rename_i hm
      obtain ⟨h1, h2, h3⟩ := mmOk_out hm
      cases e
      cases rb with
      | cons b t =>
        cases t
        obtain ⟨a, vs, rfl, ha, ra⟩ := b.list hp
        obtain ⟨its, rv, pl, _⟩ := I.list (SqL.of (K := X.K) ha)
        obtain ⟨as, hr⟩ := Dp.readsAll I _ _ its (ra.dp hp.sub h2) rv
        rw [Vals.ref1 r]
        refine max_list_data (I.ok.hd hc) pl.isList (by simpa using hr) h1 (by omega) fun i v h' tk bs hv rd k => ?_
        obtain ⟨x, r1, r2⟩ := item_is I hp ra rv h2 (by simpa using hv) rd k
        exact ⟨x, H, I.kept k, r1, fin0 hp q r2⟩
    · cases e
  · split at e
    · rename_i hm
      obtain ⟨h1, h2, h3⟩ := mmOk_out hm
      cases e
      cases rb with
      | cons b t =>
        cases t
        obtain ⟨a, vs, rfl, ha, ra⟩ := b.tup hp
        obtain ⟨its, rv, pl, _⟩ := I.tuple ha
        obtain ⟨as, hr⟩ := Dp.readsAll I _ _ its (ra.dp hp.sub h2) rv
        rw [Vals.ref1 r]
        refine max_tuple_data (I.ok.hd hc) pl (by simpa using hr) h1 (by omega) fun i v h' tk bs hv rd k => ?_
        obtain ⟨x, r1, r2⟩ := item_is I hp ra rv h2 (by simpa using hv) rd k
        exact ⟨x, H, I.kept k, r1, fin0 hp q r2⟩
    · cases e
  · cases e
    cases rb with
    | cons b t =>
      cases t with
      | cons b2 t =>
        cases t
        rw [b.int, b2.int] at r
        exact call_max2 hc pins s σ H _ us Q I r ⟨_, _, rfl, fin0 hp q (.int _)⟩
  · cases e
/-! ### sorted -/
def sortOk (xs : List D) : Bool := (xs.all fun x => xs.all fun y => alike x y) && PyData.plainAll xs && decide (PyData.depthAll xs ≤ 64) &&
  ((xs.all fun x => match x with | .tuple (_ :: _) => true | _ => false) || xs.all fun x => match x with | .none => false | .tuple _ => false | _ => true)
theorem sortOk_out {xs : List D} (h : sortOk xs = true) : AllAlike (xs.map id) ∧ PyData.plainAll xs = true ∧ PyData.depthAll xs ≤ 64 ∧ Sortable (xs.map id) := by
  unfold sortOk at h
  rw [Bool.and_eq_true_iff, Bool.and_eq_true_iff, Bool.and_eq_true_iff] at h
  obtain ⟨⟨⟨h1, h2⟩, h3⟩, h4⟩ := h
  rw [List.map_id]
  refine ⟨fun x hx y hy => List.all_eq_true.mp (List.all_eq_true.mp h1 x hx) y hy, h2, of_decide_eq_true h3, ?_⟩
  rcases Bool.or_eq_true_iff.mp h4 with h | h
  · refine .inl fun x hx => ?_
    have := List.all_eq_true.mp h x hx
    cases x with
    | tuple ys =>
      cases ys with
      | nil => simp at this
      | cons y r => exact ⟨y, r, rfl⟩
    | _ => simp at this
  · refine .inr fun x hx => ?_
    have := List.all_eq_true.mp h x hx
    refine ⟨fun e => ?_, fun ys e => ?_⟩
    · subst e; simp at this
    · subst e; simp at this
def sortD (b : Bool) (xs : List D) : List D := xs.mergeSort (dataLe b id)
def gSorted : List D → Option (List D)
  | [.list ds] => if sortOk ds = true ∧ ds.length ≤ sizeLine then some (sortD false ds) else none
  | _ => none
theorem each_of {pins : List (Addr × Obj)} {σ : St} {H : Hp} {s : Shared} {F : Hp} {ad : Option Addr} {w : Wd} (I : L2.Inv X pins σ H s) (hp : HeapOk (gx X T) F ad H w) : ∀ {vs : List V} {its : List Value} {ds : List D}, RepL X.K F vs ds → Vals vs its → PyData.plainAll ds = true →
    EachIs (fun v d => ∃ x, RelV x v ∧ Rep X.K F x d) its ds ∧ EachIs (fun v d => ∃ as, Reads s.heap v (id d) as) its ds
  | _, _, _, .nil, .nil, _ => ⟨.nil, .nil⟩
  | _, _, _, .cons r t, .cons rv tv, h => by
    have h' := Bool.and_eq_true_iff.mp (show (PyData.plain _ && PyData.plainAll _) = true by simpa [PyData.plainAll] using h)
    obtain ⟨a, b⟩ := each_of I hp t tv h'.2
    exact ⟨.cons ⟨_, rv, r⟩ a, .cons ((Rep.b r).reads (T := T) I hp h'.1 rv) b⟩
theorem each_back {K : PySem.W.Frag} {F : Hp} : ∀ {out : List Value} {ds : List D}, EachIs (fun v d => ∃ x, RelV x v ∧ Rep K F x d) out ds → ∃ vs, Vals vs out ∧ RepL K F vs ds
  | _, _, .nil => ⟨[], .nil, .nil⟩
  | _, _, .cons ⟨x, a, b⟩ t => by
    obtain ⟨vs, h1, h2⟩ := each_back t
    exact ⟨x :: vs, .cons a h1, .cons b h2⟩
theorem depth_le_all : ∀ {xs : List D} {x : D}, x ∈ xs → x.depth ≤ PyData.depthAll xs
  | y :: ys, x, h => by
    rcases List.mem_cons.mp h with e | h
    · subst e; exact Nat.le_max_left _ _
    · exact Nat.le_trans (depth_le_all h) (Nat.le_max_right _ _)
theorem co_sorted (hu : X.A.units + 100 < cLine) : CallR X (.builtin "sorted") (rCO X T gSorted) := by
  intro pins s σ H xs us Q I r ⟨F, ad, w, ds, d, hp, rb, e, q⟩
  unfold gSorted at e
  split at e
  · rename_i ds
    split at e
    · rename_i hm
      obtain ⟨h1, h2, h3, h4⟩ := sortOk_out hm.1
      cases e
      cases rb with
      | cons b t =>
        cases t
        obtain ⟨a, vs, rfl, ha, ra⟩ := b.list hp
        obtain ⟨its, rv, pl, _⟩ := I.list (SqL.of (K := X.K) ha)
        obtain ⟨e1, e2⟩ := each_of (T := T) I hp ra rv h2
        rw [Vals.ref1 r]
        refine sorted_data (enc := id) pl.isList e1 e2 h1 h4 hm.2 (fun x hx => by have := depth_le_all hx; show X.A.units + 2 + x.depth < cLine; omega) fun out hlen ho => ?_
        obtain ⟨zs, r1, r2⟩ := each_back ho
        obtain ⟨ep, he'⟩ := PyProof.Rows.sortedAll_at s.heap its out.toArray
        have hlen2 : zs.length ≤ sizeLine := by rw [r1.length, hlen]; exact hm.2
        exact ⟨.ref _, upd H (s.heap.objs.size + 1) (.lst zs), I.laid (t' := s.toks) (fun _ _ => PyProof.Rows.sortedAll_old) (Nat.le_succ _) ⟨hlen2, out, ep, r1, he'⟩, rfl, q _ zs (I.hok.fresh (Nat.le_succ _)) r2⟩
    · cases e
  · cases e
end
end DL

set_option Elab.async false
set_option linter.all false
set_option maxRecDepth 100000
set_option maxHeartbeats 2000000
namespace DL
open PySem PySem.Spec PySem.SeqAt PySem.W L2

/-- how a statement ends -/
inductive RS where
  | nx (ρ : Ev) (w : Wd)
  | rt (d : D) (w : Wd)
  | ro (ds : List D) (w : Wd)
  | bk (ρ : Ev) (w : Wd)
  | ct (ρ : Ev) (w : Wd)
  | exc (c : Str) (w : Wd)
  | bad
abbrev Sf := Ev → Wd → RS
/-- the state within a def that began at F0, H0 -/
structure AtS (G : Gx) (F0 H0 F : Hp) (ad : Option Addr) (σ : St) (H : Hp) (ρ : Ev) (w : Wd) : Prop where
  hp : HeapOk G F ad H w
  en : EnvOk G F ad σ H ρ
  gr : Grow G ad F0 H0 F H
  fr : ∀ (i : Nat) s a, ρ[i]? = some (some s) → s.own = true → σ[i]? = some (some (.ref a)) → H0 a = none
def PostS (G : Gx) (Wx : WX) (F0 H0 : Hp) (ad : Option Addr) (Dn : Ends) : RS → Prop
  | .nx ρ w => ∀ σ F H, AtS G F0 H0 F ad σ H ρ w → Dn.nx σ H
  | .bk ρ w => ∀ σ F H, AtS G F0 H0 F ad σ H ρ w → Dn.bk σ H
  | .ct ρ w => ∀ σ F H, AtS G F0 H0 F ad σ H ρ w → Dn.ct σ H
  | .rt d w => ∀ v F H, HeapOk G F ad H w → Grow G ad F0 H0 F H → Rep G.K F v d → Dn.rt v H
  | .ro ds w => ∀ a vs F H, HeapOk G F ad H w → Grow G ad F0 H0 F H → H0 a = none → H a = some (.lst vs) → F a = none → RepL G.K F vs ds → Dn.rt (.ref a) H
  | .exc c w => ∃ C, G.mg c = some (.ref C) ∧ ∀ σ F H, HeapOk G F ad H w → Grow G ad F0 H0 F H → Wx (.ref C) none σ H
  | .bad => False
def tS (G : Gx) (Wx : WX) (f : Sf) : TS := fun Dn σ H => ∃ F0 H0 F ad ρ w, AtS G F0 H0 F ad σ H ρ w ∧ PostS G Wx F0 H0 ad Dn (f ρ w)
abbrev SS (G : Gx) (Wx : WX) (X : Cx) (st : Stmt) (f : Sf) : Prop := PS X st (tS G Wx f)
abbrev SSs (G : Gx) (Wx : WX) (X : Cx) (sts : List Stmt) (f : Sf) : Prop := PSs X sts (tS G Wx f)

section
variable {G : Gx} {Wx : WX} {F0 H0 F F' H H' : Hp} {ad : Option Addr} {σ : St} {ρ : Ev} {w w' : Wd} {Dn : Ends} {α β : Type}
theorem AtS.at (a : AtS G F0 H0 F ad σ H ρ w) : At G F ad σ H ρ w := ⟨a.hp, a.en⟩
theorem AtS.grow (a : AtS G F0 H0 F ad σ H ρ w) (h : HeapOk G F' ad H' w') (g : Grow G ad F H F' H') : AtS G F0 H0 F' ad σ H' ρ w' :=
  ⟨h, a.en.grow a.hp g, a.gr.then a.hp g, a.fr⟩
/-- an expression within a statement -/
def bindS (r : R α) (k : α → Wd → RS) : RS :=
  match r with
  | .ok a w => k a w
  | .exc c w => .exc c w
  | .bad => .bad
theorem expr_post {r : R α} {k : α → Wd → RS} (a0 : AtS G F0 H0 F ad σ H ρ w) (h : PostS G Wx F0 H0 ad Dn (bindS r k)) :
    Post G Wx σ F ad H (fun a w1 F1 H1 => AtS G F0 H0 F1 ad σ H1 ρ w1 ∧ PostS G Wx F0 H0 ad Dn (k a w1)) r := by
  cases r with
  | bad => exact h
  | exc c w1 =>
    obtain ⟨C, e, z⟩ := h
    exact ⟨C, e, fun F1 H1 h1 g1 => z σ F1 H1 h1 (a0.gr.then a0.hp g1)⟩
  | ok a w1 => exact fun F1 H1 h1 g1 => ⟨a0.grow h1 g1, h⟩
theorem exprD_in {fa : Ef} {k : D → Wd → RS} {Z : V → Hp → Prop} (a0 : AtS G F0 H0 F ad σ H ρ w) (h : PostS G Wx F0 H0 ad Dn (bindS (fa ρ w) k))
    (hv : ∀ F1 H1 w1 x dx, AtS G F0 H0 F1 ad σ H1 ρ w1 → Rep G.K F1 x dx → PostS G Wx F0 H0 ad Dn (k dx w1) → Z x H1) : tD G Wx fa σ H Z :=
  ⟨F, ad, ρ, w, a0.at, (expr_post a0 h).imp fun d w1 F1 H1 h1 g1 p v r => hv F1 H1 w1 v d p.1 r p.2⟩
theorem exprB_in {fa : Ef} {k : D → Wd → RS} {Z : V → Hp → Prop} (a0 : AtS G F0 H0 F ad σ H ρ w) (h : PostS G Wx F0 H0 ad Dn (bindS (fa ρ w) k))
    (hv : ∀ F1 H1 w1 x dx, AtS G F0 H0 F1 ad σ H1 ρ w1 → RepB G F1 ad H1 x dx → PostS G Wx F0 H0 ad Dn (k dx w1) → Z x H1) : tB G Wx fa σ H Z :=
  ⟨F, ad, ρ, w, a0.at, (expr_post a0 h).imp fun d w1 F1 H1 h1 g1 p v r => hv F1 H1 w1 v d p.1 r p.2⟩
theorem test_in {ta : Ev → Wd → R Bool} {k : Bool → Wd → RS} {Z : Bool → Hp → Prop} (a0 : AtS G F0 H0 F ad σ H ρ w) (h : PostS G Wx F0 H0 ad Dn (bindS (ta ρ w) k))
    (hv : ∀ F1 H1 w1 b, AtS G F0 H0 F1 ad σ H1 ρ w1 → PostS G Wx F0 H0 ad Dn (k b w1) → Z b H1) : tT G Wx ta σ H Z :=
  ⟨F, ad, ρ, w, a0.at, (expr_post a0 h).imp fun d w1 F1 H1 h1 g1 p => hv F1 H1 w1 d p.1 p.2⟩
end

/-! ### blocks -/
def sNil : Sf := fun ρ w => .nx ρ w
def seqK (r : RS) (g : Sf) : RS :=
  match r with
  | .nx ρ w => g ρ w
  | r => r
def sSeq (f g : Sf) : Sf := fun ρ w => seqK (f ρ w) g
section
variable {X : Cx} {T : Addr → Prop} {Wx : WX} {st : Stmt} {rest a b : List Stmt} {f g : Sf} {e c : Expr} {fa : Ef} {pos : Pos}
theorem ss_nil : SSs (gx X T) Wx X [] sNil := PSs.imp pss_nil fun Dn σ H ⟨F0, H0, F, ad, ρ, w, a0, p⟩ => p σ F H a0
theorem postS_seq {G : Gx} {F0 H0 : Hp} {ad : Option Addr} {Dn : Ends} {r : RS} (p : PostS G Wx F0 H0 ad Dn (seqK r g)) : PostS G Wx F0 H0 ad { Dn with nx := tS G Wx g Dn } r := by
  cases r with
  | nx ρ1 w1 => exact fun σ1 F1 H1 a1 => ⟨F0, H0, F1, ad, ρ1, w1, a1, p⟩
  | rt d w1 => exact p
  | ro ds w1 => exact p
  | bk ρ1 w1 => exact p
  | ct ρ1 w1 => exact p
  | exc c w1 => exact p
  | bad => exact p
theorem ss_cons (h1 : SS (gx X T) Wx X st f) (h2 : SSs (gx X T) Wx X rest g) : SSs (gx X T) Wx X (st :: rest) (sSeq f g) :=
  PSs.imp (pss_cons h1 h2) fun Dn σ H ⟨F0, H0, F, ad, ρ, w, a0, p⟩ => ⟨F0, H0, F, ad, ρ, w, a0, postS_seq p⟩
theorem ss_one (h1 : SS (gx X T) Wx X st f) : SSs (gx X T) Wx X [st] f := pss_one h1
/-- a step that the text does not show -/
theorem ss_ghost {u : Sf} (hu : ∀ F0 H0 F ad σ H ρ w Dn, AtS (gx X T) F0 H0 F ad σ H ρ w → PostS (gx X T) Wx F0 H0 ad Dn (u ρ w) → ∃ F', ∃ ρ', AtS (gx X T) F0 H0 F' ad σ H ρ' w ∧ PostS (gx X T) Wx F0 H0 ad Dn (.nx ρ' w))
    (h2 : SSs (gx X T) Wx X rest g) : SSs (gx X T) Wx X rest (sSeq u g) :=
  PSs.imp h2 fun Dn σ H ⟨F0, H0, F, ad, ρ, w, a0, p⟩ => by
    obtain ⟨F', ρ', a1, p1⟩ := hu F0 H0 F ad σ H ρ w _ a0 (postS_seq p)
    exact p1 σ F' H a1
def sIf (tc : Ev → Wd → R Bool) (f g : Sf) : Sf := fun ρ w => bindS (tc ρ w) fun b w1 => if b = true then f ρ w1 else g ρ w1
theorem ss_if {tc : Ev → Wd → R Bool} (hc : ST (gx X T) Wx X c tc) (ha : SSs (gx X T) Wx X a f) (hb : SSs (gx X T) Wx X b g) : SS (gx X T) Wx X (.If c a b pos) (sIf tc f g) :=
  PS.imp (ps_if hc ha hb) fun Dn σ H ⟨F0, H0, F, ad, ρ, w, a0, p⟩ => test_in a0 p fun F1 H1 w1 k a1 p1 => by
    cases k with
    | true => rw [if_pos rfl] at p1 ⊢; exact ⟨F0, H0, F1, ad, ρ, w1, a1, p1⟩
    | false => rw [if_neg Bool.false_ne_true] at p1 ⊢; exact ⟨F0, H0, F1, ad, ρ, w1, a1, p1⟩
def sRet (fa : Ef) : Sf := fun ρ w => bindS (fa ρ w) fun d w1 => .rt d w1
theorem ss_ret (ha : SE (gx X T) Wx X e fa) : SS (gx X T) Wx X (.Return (some e) pos) (sRet fa) :=
  PS.imp (ps_ret ha) fun Dn σ H ⟨F0, H0, F, ad, ρ, w, a0, p⟩ => exprD_in a0 p fun F1 H1 w1 x dx a1 r p1 => p1 x F1 H1 a1.hp a1.gr r
/-- a fresh list is given back -/
def sRetO (fo : Ev → Wd → R (List D)) : Sf := fun ρ w => bindS (fo ρ w) fun ds w1 => .ro ds w1
theorem none0 {G : Gx} {F0 H0 F H : Hp} {ad : Option Addr} {w : Wd} {a : Addr} (h : HeapOk G F ad H w) (g : Grow G ad F0 H0 F H) (n : H a = none) : H0 a = none := by
  cases q : H0 a with
  | none => rfl
  | some o =>
    exact absurd n (by
      by_cases ht : G.T a
      · exact h.tN a ht
      · by_cases hd : ad = some a
        · exact h.dN a hd
        · rw [g.keep a o q ht hd]; exact fun z => by cases z)
theorem ss_retO {fo : Ev → Wd → R (List D)} (ha : SO (gx X T) Wx X e fo) : SS (gx X T) Wx X (.Return (some e) pos) (sRetO fo) :=
  PS.imp (ps_ret ha) fun Dn σ H ⟨F0, H0, F, ad, ρ, w, a0, p⟩ => ⟨F, ad, ρ, w, a0.at, (expr_post a0 p).imp fun ds w1 F1 H1 h1 g1 q a vs hn ha hf r => q.2 a vs F1 H1 h1 q.1.gr (none0 a0.hp a0.gr hn) ha hf r⟩
def sRetN : Sf := fun _ w => .rt .none w
theorem ss_retN : SS (gx X T) Wx X (.Return none pos) sRetN := PS.imp ps_retN fun Dn σ H ⟨F0, H0, F, ad, ρ, w, a0, p⟩ => p _ F H a0.hp a0.gr .non
def sBk : Sf := fun ρ w => .bk ρ w
def sCt : Sf := fun ρ w => .ct ρ w
theorem ss_break : SS (gx X T) Wx X (.Break pos) sBk := PS.imp ps_break fun Dn σ H ⟨F0, H0, F, ad, ρ, w, a0, p⟩ => p σ F H a0
theorem ss_continue : SS (gx X T) Wx X (.Continue pos) sCt := PS.imp ps_continue fun Dn σ H ⟨F0, H0, F, ad, ρ, w, a0, p⟩ => p σ F H a0
theorem ss_pass : SS (gx X T) Wx X (.Pass pos) sNil := PS.imp ps_pass fun Dn σ H ⟨F0, H0, F, ad, ρ, w, a0, p⟩ => p σ F H a0
def sDrop (fa : Ef) : Sf := fun ρ w => bindS (fa ρ w) fun _ w1 => .nx ρ w1
theorem ss_expr (ha : SE (gx X T) Wx X e fa) (hs : swapsWith e none pos.line X.env = pure false := by rfl) : SS (gx X T) Wx X (.Expr e pos) (sDrop fa) :=
  PS.imp (ps_expr ha hs) fun Dn σ H ⟨F0, H0, F, ad, ρ, w, a0, p⟩ => exprD_in a0 p fun F1 H1 w1 x dx a1 r p1 => p1 σ F1 H1 a1
end

/-! ### targets -/
abbrev Tg := D → Ev → Option Ev
/-- the own slots behind are own slots ahead, as they were -/
def OwnSub (σ σ' : St) (ρ ρ' : Ev) : Prop := ∀ (i : Nat) s, ρ'[i]? = some (some s) → s.own = true → ρ[i]? = some (some s) ∧ σ'[i]? = σ[i]?
/-- only these slots have changed -/
def OutSame (ix : List Nat) (σ σ' : St) : Prop := σ'.length = σ.length ∧ ∀ j, j ∉ ix → σ'[j]? = σ[j]?
theorem OutSame.trans {ix iy : List Nat} {σ σ1 σ2 : St} (a : OutSame ix σ σ1) (b : OutSame iy σ1 σ2) : OutSame (ix ++ iy) σ σ2 :=
  ⟨b.1.trans a.1, fun j h => (b.2 j fun z => h (List.mem_append_right _ z)).trans (a.2 j fun z => h (List.mem_append_left _ z))⟩
def tG (G : Gx) (ix : List Nat) (g : Tg) : TG := fun v σ H Q => ∃ F ad ρ w d ρ', At G F ad σ H ρ w ∧ Rep G.K F v d ∧ g d ρ = some ρ' ∧ ∀ σ', EnvOk G F ad σ' H ρ' → OwnSub σ σ' ρ ρ' → OutSame ix σ σ' → Q σ' H
abbrev SG (G : Gx) (X : Cx) (tg : Expr) (ix : List Nat) (g : Tg) : Prop := PG X tg (tG G ix g)
theorem PG.imp {X : Cx} {e : Expr} {t t' : TG} (h : PG X e t) (i : ∀ v σ H Q, t' v σ H Q → t v σ H Q) : PG X e t' := ⟨fun pins s σ H v u Q I r q => h.run pins s σ H v u Q I r (i v σ H Q q)⟩
def gN (i : Nat) : Tg := fun d ρ => if i < ρ.length then some (ρ.set i (some (.v d))) else none
theorem OwnSub.trans {σ σ1 σ2 : St} {ρ ρ1 ρ2 : Ev} (a : OwnSub σ σ1 ρ ρ1) (b : OwnSub σ1 σ2 ρ1 ρ2) : OwnSub σ σ2 ρ ρ2 := fun i s e o => by
  obtain ⟨h1, h2⟩ := b i s e o
  obtain ⟨h3, h4⟩ := a i s h1 o
  exact ⟨h3, h2.trans h4⟩
/-- a slot gets a value -/
theorem EnvOk.setV {G : Gx} {F H : Hp} {ad : Option Addr} {σ : St} {ρ : Ev} {i : Nat} {v : V} {d : D} (h : EnvOk G F ad σ H ρ) (r : Rep G.K F v d) (hi : i < ρ.length) : EnvOk G F ad (σ.set i (some v)) H (ρ.set i (some (.v d))) ∧ OwnSub σ (σ.set i (some v)) ρ (ρ.set i (some (.v d))) := by
  have hi' : i < σ.length := by rw [← h.len]; exact hi
  have own : OwnSub σ (σ.set i (some v)) ρ (ρ.set i (some (.v d))) := fun j s e o => by
    by_cases q : i = j
    · subst q
      rw [List.getElem?_set_self hi] at e
      cases e
      cases o
    · rw [List.getElem?_set_ne q] at e
      exact ⟨e, List.getElem?_set_ne q⟩
  refine ⟨⟨by rw [List.length_set, List.length_set]; exact h.len, fun j s e => ?_, fun j k s t u ne e1 e2 o1 o2 e3 => ?_⟩, own⟩
  · by_cases q : i = j
    · subst q
      rw [List.getElem?_set_self hi] at e
      cases e
      exact ⟨v, List.getElem?_set_self hi', r⟩
    · rw [List.getElem?_set_ne q] at e ⊢
      exact h.sl j s e
  · obtain ⟨a1, a2⟩ := own j s e1 o1
    obtain ⟨b1, b2⟩ := own k t e2 o2
    rw [a2] at e3
    rw [b2]
    exact h.dist j k s t u ne a1 b1 o1 o2 e3
section
variable {X : Cx} {T : Addr → Prop} {Wx : WX} {tg e : Expr} {es : List Expr} {g : Tg} {fa : Ef} {pos pos' : Pos} {x : Str}
theorem sg_name {i : Nat} (h : PG X (.Name x pos) (gName i)) : SG (gx X T) X (.Name x pos) [i] (gN i) := PG.imp h fun v σ H Q ⟨F, ad, ρ, w, d, ρ', a0, r, eg, q⟩ => by
  unfold gN at eg
  split at eg
  · rename_i hi
    cases eg
    obtain ⟨h1, h2⟩ := a0.en.setV r hi
    exact q _ h1 h2 ⟨List.length_set, fun j hj => List.getElem?_set_ne fun z => hj (by simp [z])⟩
  · cases eg
/-- several targets -/
abbrev Tgs := List D → Ev → Option Ev
def gsN : Tgs := fun ds ρ => match ds with
  | [] => some ρ
  | _ => none
def gsC (g : Tg) (gs : Tgs) : Tgs := fun ds ρ => match ds with
  | d :: ds => (g d ρ).bind fun ρ1 => gs ds ρ1
  | [] => none
def tGs (G : Gx) (ix : List Nat) (g : Tgs) : TGs := fun vs σ H Q => ∃ F ad ρ w ds ρ', At G F ad σ H ρ w ∧ RepL G.K F vs ds ∧ g ds ρ = some ρ' ∧ ∀ σ', EnvOk G F ad σ' H ρ' → OwnSub σ σ' ρ ρ' → OutSame ix σ σ' → Q σ' H
abbrev SGs (G : Gx) (X : Cx) (ts : List Expr) (ix : List Nat) (g : Tgs) : Prop := PGs X ts (tGs G ix g)
theorem PGs.imp {X : Cx} {e : List Expr} {t t' : TGs} (h : PGs X e t) (i : ∀ v σ H Q, t' v σ H Q → t v σ H Q) : PGs X e t' := ⟨fun pins s σ H v u Q I r q => h.run pins s σ H v u Q I r (i v σ H Q q)⟩
theorem sgs_nil : SGs (gx X T) X [] [] gsN := PGs.imp pgs_nil fun vs σ H Q ⟨F, ad, ρ, w, ds, ρ', a0, r, eg, q⟩ => by
  cases r with
  | nil => cases eg; exact ⟨rfl, q σ a0.en (fun i s e _ => ⟨e, rfl⟩) ⟨rfl, fun _ _ => rfl⟩⟩
  | cons _ _ => cases eg
theorem sgs_cons {gs : Tgs} {ix iy : List Nat} (h1 : SG (gx X T) X e ix g) (h2 : SGs (gx X T) X es iy gs) (hs : (assignEach (e :: es) X.env).map (·.2) = assign e X.env :: (assignEach es X.env).map (·.2) := by rfl) : SGs (gx X T) X (e :: es) (ix ++ iy) (gsC g gs) :=
  PGs.imp (pgs_cons h1 h2 hs) fun vs σ H Q ⟨F, ad, ρ, w, ds, ρ', a0, r, eg, q⟩ => by
    cases r with
    | nil => cases eg
    | @cons v vs d ds r1 r2 =>
      have eg : (g d ρ).bind (fun ρ1 => gs ds ρ1) = some ρ' := eg
      cases e1 : g d ρ with
      | none => rw [e1] at eg; cases eg
      | some ρ1 =>
        rw [e1] at eg
        exact ⟨v, vs, rfl, F, ad, ρ, w, d, ρ1, a0, r1, e1, fun σ1 en1 o1 s1 => ⟨F, ad, ρ1, w, ds, ρ', ⟨a0.hp, en1⟩, r2, eg, fun σ2 en2 o2 s2 => q σ2 en2 (o1.trans o2) (s1.trans s2)⟩⟩
def gT (n : Nat) (gs : Tgs) : Tg := fun d ρ => match d with
  | .tuple ds => if ds.length = n then gs ds ρ else none
  | _ => none
theorem sg_tup {k n : Nat} {gs : Tgs} {ix : List Nat} (hc : X.calm = true) (h : SGs (gx X T) X es ix gs) (hn : (assignEach es X.env).length = n := by rfl) (hst : (assignEach es X.env).findIdx? (·.1) = none := by rfl) : SG (gx X T) X (.Tuple es k pos) ix (gT n gs) :=
  PG.imp (pg_tup hc h hn hst) fun v σ H Q ⟨F, ad, ρ, w, d, ρ', a0, r, eg, q⟩ => by
    unfold gT at eg
    split at eg
    · rename_i ds
      split at eg
      · rename_i hl
        cases r with
        | tup e rr => exact ⟨_, _, rfl, sqT_mono a0.hp.sub e, by rw [rr.length]; exact hl, F, ad, ρ, w, ds, ρ', a0, rr, eg, q⟩
      · cases eg
    · cases eg
/-- the state behind a target -/
theorem AtS.env {G : Gx} {F0 H0 F H : Hp} {ad : Option Addr} {σ σ' : St} {ρ ρ' : Ev} {w : Wd} (a : AtS G F0 H0 F ad σ H ρ w) (e : EnvOk G F ad σ' H ρ') (o : OwnSub σ σ' ρ ρ') : AtS G F0 H0 F ad σ' H ρ' w :=
  ⟨a.hp, e, a.gr, fun i s b h1 h2 h3 => by
    obtain ⟨x1, x2⟩ := o i s h1 h2
    rw [x2] at h3
    exact a.fr i s b x1 h2 h3⟩
def ofO (w : Wd) : Option Ev → RS
  | some ρ => .nx ρ w
  | none => .bad
def sAsg (fa : Ef) (g : Tg) : Sf := fun ρ w => bindS (fa ρ w) fun d w1 => ofO w1 (g d ρ)
theorem asg_in {ix : List Nat} {σ : St} {H : Hp} {Dn : Ends} (h : tS (gx X T) Wx (sAsg fa g) Dn σ H) : tAsg (tD (gx X T) Wx fa) (tG (gx X T) ix g) Dn σ H := by
  obtain ⟨F0, H0, F, ad, ρ, w, a0, p⟩ := h
  refine exprD_in a0 p fun F1 H1 w1 x dx a1 r p1 => ?_
  cases e1 : g dx ρ with
  | none => rw [e1] at p1; exact p1.elim
  | some ρ' => rw [e1] at p1; exact ⟨F1, ad, ρ, w1, dx, ρ', a1.at, r, e1, fun σ' en o _ => p1 σ' F1 H1 (a1.env en o)⟩
theorem ss_asg {ix : List Nat} (he : SE (gx X T) Wx X e fa) (hg : SG (gx X T) X tg ix g) (hs : swapsWithSole [tg] e pos.line X.env = pure false := by rfl) (hw : swappedStores [tg] e X.env = pure none := by rfl)
    (h1 : (assignEach [tg] X.env).map (·.2) = [assign tg X.env] := by rfl) : SS (gx X T) Wx X (.Assign [tg] e pos) (sAsg fa g) := PS.imp (ps_asg he hg hs hw h1) fun Dn σ H h => asg_in h
theorem ss_set {i : Nat} (he : SE (gx X T) Wx X e fa) (hN : X.N.Nodup) (hi : X.N[i]? = some x) (hx : Loc X.env.scope x) (hs : swapsWith e (some (.Name x pos')) pos.line X.env = pure false := by rfl)
    (hf : X.fn x = true ∨ X.env.scope.names.lookup x = some .local := by first | exact .inl rfl | exact .inr rfl | assumption) : SS (gx X T) Wx X (.Assign [.Name x pos'] e pos) (sAsg fa (gN i)) :=
  PS.imp (ps_set hN hi hx he hs hf) fun Dn σ H ⟨F0, H0, F, ad, ρ, w, a0, p⟩ => exprD_in a0 p fun F1 H1 w1 y dy a1 r p1 => by
    unfold gN at p1
    split at p1
    · rename_i hl
      obtain ⟨h1, h2⟩ := a1.en.setV r hl
      exact p1 _ F1 H1 (a1.env h1 h2)
    · exact p1.elim
end
end DL

set_option Elab.async false
set_option linter.all false
set_option maxRecDepth 100000
set_option maxHeartbeats 2000000
namespace DL
open PySem PySem.Spec PySem.SeqAt PySem.W L2

/-! ### what this frame alone holds -/
section
variable {G : Gx} {Wx : WX} {F0 H0 F F' H H' : Hp} {ad : Option Addr} {σ : St} {ρ : Ev} {w w' : Wd} {Dn : Ends} {α β : Type}
/-- a new own thing at a goes to slot i -/
theorem AtS.setOwn {i : Nat} {a : Addr} {s : Sl} (a0 : AtS G F0 H0 F ad σ H ρ w) (hi : i < ρ.length) (ho : s.own = true) (hs : SlOk G F ad H (.ref a) s) (n0 : H0 a = none) (nw : ∀ (j : Nat) t, ρ[j]? = some (some t) → t.own = true → σ[j]? ≠ some (some (.ref a))) :
    AtS G F0 H0 F ad (σ.set i (some (.ref a))) H (ρ.set i (some s)) w := by
  have hi' : i < σ.length := by rw [← a0.en.len]; exact hi
  refine ⟨a0.hp, ⟨by rw [List.length_set, List.length_set]; exact a0.en.len, fun j t e => ?_, fun j k t u v ne e1 e2 o1 o2 e3 => ?_⟩, a0.gr, fun j t b e1 o1 e2 => ?_⟩
  · by_cases q : i = j
    · subst q
      rw [List.getElem?_set_self hi] at e
      cases e
      exact ⟨_, List.getElem?_set_self hi', hs⟩
    · rw [List.getElem?_set_ne q] at e ⊢
      exact a0.en.sl j t e
  · by_cases q : i = j
    · subst q
      rw [List.getElem?_set_self hi] at e1
      cases e1
      rw [List.getElem?_set_self hi'] at e3
      cases e3
      rw [List.getElem?_set_ne ne] at e2 ⊢
      exact nw k u e2 o2
    · rw [List.getElem?_set_ne q] at e1 e3
      by_cases q2 : i = k
      · subst q2
        rw [List.getElem?_set_self hi]  at e2
        cases e2
        rw [List.getElem?_set_self hi']
        intro z
        cases z
        exact nw j t e1 o1 e3
      · rw [List.getElem?_set_ne q2] at e2 ⊢
        exact a0.en.dist j k t u v ne e1 e2 o1 o2 e3
  · by_cases q : i = j
    · subst q
      rw [List.getElem?_set_self hi'] at e2
      cases e2
      exact n0
    · rw [List.getElem?_set_ne q] at e1 e2
      exact a0.fr j t b e1 o1 e2
/-- the thing at slot i is written -/
theorem AtS.put {i : Nat} {a : Addr} {s s' : Sl} {o' : HO} (a0 : AtS G F0 H0 F ad σ H ρ w) (e : ρ[i]? = some (some s)) (ho : s.own = true) (hσ : σ[i]? = some (some (.ref a))) (nT : ¬ G.T a) (nF : F a = none) (nd : ad ≠ some a)
    (ho' : s'.own = true) (hs : SlOk G F ad (upd H a o') (.ref a) s') : AtS G F0 H0 F ad σ (upd H a o') (ρ.set i (some s')) w := by
  have hi : i < ρ.length := (List.getElem?_eq_some_iff.mp e).1
  have n0 := a0.fr i s a e ho hσ
  refine ⟨⟨fun b o q => ?_, a0.hp.noT, a0.hp.noD, fun b q => ?_, fun b q => ?_⟩, ⟨by rw [List.length_set]; exact a0.en.len, fun j t ej => ?_, fun j k t u v ne e1 e2 o1 o2 e3 => ?_⟩, ⟨a0.gr.mono, fun b o q1 q2 q3 => ?_, a0.gr.nf⟩, fun j t b e1 o1 e2 => ?_⟩
  · rw [upd_ne (ne_of_none q nF)]; exact a0.hp.sub b o q
  · obtain ⟨ps, h1, h2⟩ := a0.hp.tab b q
    exact ⟨ps, by rw [upd_ne (fun z => by subst z; exact nT q)]; exact h1, h2⟩
  · obtain ⟨vs, h1, h2⟩ := a0.hp.dr b q
    exact ⟨vs, by rw [upd_ne (fun z => by subst z; exact nd q)]; exact h1, h2⟩
  · by_cases q : i = j
    · subst q
      rw [List.getElem?_set_self hi] at ej
      cases ej
      exact ⟨_, hσ, hs⟩
    · rw [List.getElem?_set_ne q] at ej
      obtain ⟨v, h1, h2⟩ := a0.en.sl j t ej
      refine ⟨v, h1, ?_⟩
      have hne : t.own = true → v ≠ .ref a := fun ot z => by
        subst z
        exact a0.en.dist i j s t _ q e ej ho ot hσ h1
      cases t with
      | v d => exact h2
      | dr => exact h2
      | sc ns => exact h2
      | ol ds =>
        obtain ⟨b, vs, z, h3, h4, h5, h6⟩ := h2
        exact ⟨b, vs, z, h3, h4, by rw [upd_ne fun y => hne rfl (by rw [z, y])]; exact h5, h6⟩
      | od kvs =>
        obtain ⟨b, o, z, h3, h4, h5, h6⟩ := h2
        exact ⟨b, o, z, h3, h4, by rw [upd_ne fun y => hne rfl (by rw [z, y])]; exact h5, h6⟩
  · have key : ∀ (j : Nat) t, (ρ.set i (some s'))[j]? = some (some t) → t.own = true → ∃ t', ρ[j]? = some (some t') ∧ t'.own = true := fun j t ej ot => by
      by_cases q : i = j
      · subst q; exact ⟨s, e, ho⟩
      · rw [List.getElem?_set_ne q] at ej; exact ⟨t, ej, ot⟩
    obtain ⟨t', x1, x2⟩ := key j t e1 o1
    obtain ⟨u', y1, y2⟩ := key k u e2 o2
    exact a0.en.dist j k t' u' v ne x1 y1 x2 y2 e3
  · rw [upd_ne (ne_of_none q1 n0)]
    exact a0.gr.keep b o q1 q2 q3
  · by_cases q : i = j
    · subst q
      rw [hσ] at e2
      cases e2
      exact n0
    · rw [List.getElem?_set_ne q] at e1
      exact a0.fr j t b e1 o1 e2
end

section
variable {X : Cx} {T : Addr → Prop} {Wx : WX} {e : Expr} {fa : Ef} {pos pos' apos cpos p1 : Pos} {x : Str}
/-- x = a new list, kept by this frame -/
def sOwn (fo : Ev → Wd → R (List D)) (i : Nat) : Sf := fun ρ w => bindS (fo ρ w) fun ds w1 => if i < ρ.length then .nx (ρ.set i (some (.ol ds))) w1 else .bad
theorem own_in {fo : Ev → Wd → R (List D)} {i : Nat} {σ : St} {H : Hp} {Dn : Ends} (h : tS (gx X T) Wx (sOwn fo i) Dn σ H) : tAsg (tO (gx X T) Wx fo) (gName i) Dn σ H := by
  obtain ⟨F0, H0, F, ad, ρ, w, a0, p⟩ := h
  refine ⟨F, ad, ρ, w, a0.at, (expr_post a0 p).imp fun ds w1 F1 H1 h1 g1 p1 a vs hn ha hf r => ?_⟩
  obtain ⟨a1, p1⟩ := p1
  split at p1
  · rename_i hi
    have hd : ad ≠ some a := fun z => a0.hp.dN a z hn
    refine p1 _ F1 H1 (a1.setOwn hi rfl ⟨a, vs, rfl, hf, hd, ha, r⟩ ?_ fun j t e o z => ?_)
    · cases q : H0 a with
      | none => rfl
      | some o =>
        exact absurd hn (by
          by_cases ht : T a
          · exact a0.hp.tN a ht
          · rw [a0.gr.keep a o q ht hd]; exact fun z => by cases z)
    · obtain ⟨v, h3, h4⟩ := a0.en.sl j t e
      rw [z] at h3
      cases h3
      cases t with
      | v d => cases o
      | dr => cases o
      | sc ns => cases o
      | ol ds =>
        obtain ⟨b, vs, z, _, _, h5, _⟩ := h4
        cases z
        rw [hn] at h5; cases h5
      | od kvs =>
        obtain ⟨b, o, z, _, _, h5, _⟩ := h4
        cases z
        rw [hn] at h5; cases h5
  · exact p1.elim
theorem ss_own {fo : Ev → Wd → R (List D)} {i : Nat} (he : SO (gx X T) Wx X e fo) (hN : X.N.Nodup) (hi : X.N[i]? = some x) (hx : Loc X.env.scope x) (hs : swapsWith e (some (.Name x pos')) pos.line X.env = pure false := by rfl)
    (hf : X.fn x = true ∨ X.env.scope.names.lookup x = some .local := by first | exact .inl rfl | exact .inr rfl | assumption) : SS (gx X T) Wx X (.Assign [.Name x pos'] e pos) (sOwn fo i) :=
  PS.imp (ps_set hN hi hx he hs hf) fun Dn σ H h => own_in h
/-- an own list is frozen -/
def sFz (i : Nat) : Sf := fun ρ w => match ρ[i]? with
  | some (some (.ol ds)) => .nx (ρ.set i (some (.v (.list ds)))) w
  | some (some (.od kvs)) => .nx (ρ.set i (some (.v (.dict kvs)))) w
  | _ => .bad
theorem HeapOk.freezeO {G : Gx} {F H : Hp} {ad : Option Addr} {w : Wd} {a : Addr} {u : HO} (h : HeapOk G F ad H w) (e : H a = some u) (nt : ∀ ps, u ≠ .tbl ps) (n : F a = none) (hd : ad ≠ some a) : HeapOk G (upd F a u) ad H w := by
  have mono : ∀ b o', F b = some o' → upd F a u b = some o' := fun b o' q => by rw [upd_ne (ne_of_none q n)]; exact q
  refine ⟨fun b o q => ?_, fun b q => ?_, fun b q => ?_, h.tab, fun b q => ?_⟩
  · by_cases hb : b = a
    · subst hb; rw [upd_same] at q; rw [e]; exact q
    · rw [upd_ne hb] at q; exact h.sub b o q
  · by_cases hb : b = a
    · subst hb; exact notT h e nt
    · rw [upd_ne hb] at q; exact h.noT b q
  · by_cases hb : b = a
    · subst hb; exact hd
    · rw [upd_ne hb] at q; exact h.noD b q
  · obtain ⟨us, h1, h2⟩ := h.dr b q
    exact ⟨us, h1, h2.mono mono⟩
theorem AtS.frz {G : Gx} {F0 H0 F H : Hp} {ad : Option Addr} {σ : St} {ρ : Ev} {w : Wd} {i : Nat} {a : Addr} {s : Sl} {u : HO} {d : D} (a0 : AtS G F0 H0 F ad σ H ρ w) (e : ρ[i]? = some (some s)) (ho : s.own = true) (hσ : σ[i]? = some (some (.ref a)))
    (ha : H a = some u) (nt : ∀ ps, u ≠ .tbl ps) (nF : F a = none) (nd : ad ≠ some a) (hr : Rep G.K (upd F a u) (.ref a) d) : AtS G F0 H0 (upd F a u) ad σ H (ρ.set i (some (.v d))) w := by
  have hi : i < ρ.length := (List.getElem?_eq_some_iff.mp e).1
  have mono : ∀ b o', F b = some o' → upd F a u b = some o' := fun b o' q => by rw [upd_ne (ne_of_none q nF)]; exact q
  have n0 := a0.fr i s a e ho hσ
  have key : ∀ (j : Nat) t, (ρ.set i (some (.v d)))[j]? = some (some t) → t.own = true → i ≠ j ∧ ρ[j]? = some (some t) := fun j t ej ot => by
    by_cases q : i = j
    · subst q
      rw [List.getElem?_set_self hi] at ej
      cases ej; cases ot
    · rw [List.getElem?_set_ne q] at ej; exact ⟨q, ej⟩
  refine ⟨a0.hp.freezeO ha nt nF nd, ⟨by rw [List.length_set]; exact a0.en.len, fun j t ej => ?_, fun j k t v z ne e1 e2 o1 o2 e3 => ?_⟩, ⟨fun b o q => mono b o (a0.gr.mono b o q), a0.gr.keep, fun b q1 q2 => ?_⟩, fun j t b e1 o1 e2 => ?_⟩
  · by_cases q : i = j
    · subst q
      rw [List.getElem?_set_self hi] at ej
      cases ej
      exact ⟨_, hσ, hr⟩
    · rw [List.getElem?_set_ne q] at ej
      obtain ⟨v, h1, h2⟩ := a0.en.sl j t ej
      refine ⟨v, h1, ?_⟩
      have hne : t.own = true → v ≠ .ref a := fun ot z => by
        subst z
        exact a0.en.dist i j s t _ q e ej ho ot hσ h1
      cases t with
      | v d => exact Rep.mono mono h2
      | dr => exact h2
      | sc ns => let ⟨b, z, q⟩ := h2; exact ⟨b, z, sqL_mono mono q⟩
      | ol ds =>
        obtain ⟨b, vs, z, h3, h4, h5, h6⟩ := h2
        exact ⟨b, vs, z, by rw [upd_ne fun y => hne rfl (by rw [z, y])]; exact h3, h4, h5, h6.mono mono⟩
      | od kvs =>
        obtain ⟨b, o, z, h3, h4, h5, h6⟩ := h2
        exact ⟨b, o, z, by rw [upd_ne fun y => hne rfl (by rw [z, y])]; exact h3, h4, h5, h6.mono mono⟩
  · exact a0.en.dist j k t v z ne (key j t e1 o1).2 (key k v e2 o2).2 o1 o2 e3
  · rw [upd_ne fun z => by subst z; exact q1 n0]
    exact a0.gr.nf b q1 q2
  · exact a0.fr j t b (key j t e1 o1).2 o1 e2
/-- a dict is frozen: it is read only from now on, known to the object -/
theorem AtS.frzD {G : Gx} {F0 H0 F H : Hp} {ad : Option Addr} {σ : St} {ρ : Ev} {w : Wd} {i : Nat} {a : Addr} {s : Sl} {u u' : HO} {d : D} (a0 : AtS G F0 H0 F ad σ H ρ w) (e : ρ[i]? = some (some s)) (ho : s.own = true) (hσ : σ[i]? = some (some (.ref a)))
    (ha : H a = some u) (nt : ∀ ps, u ≠ .tbl ps) (nF : F a = none) (nd : ad ≠ some a) (hr : Rep G.K (upd F a u') (.ref a) d) : AtS G F0 H0 (upd F a u') ad σ (upd H a u') (ρ.set i (some (.v d))) w := by
  have hi : i < ρ.length := (List.getElem?_eq_some_iff.mp e).1
  have mono : ∀ b o', F b = some o' → upd F a u' b = some o' := fun b o' q => by rw [upd_ne (ne_of_none q nF)]; exact q
  have n0 := a0.fr i s a e ho hσ
  have nT : ¬ G.T a := notT a0.hp ha nt
  have key : ∀ (j : Nat) t, (ρ.set i (some (.v d)))[j]? = some (some t) → t.own = true → i ≠ j ∧ ρ[j]? = some (some t) := fun j t ej ot => by
    by_cases q : i = j
    · subst q
      rw [List.getElem?_set_self hi] at ej
      cases ej; cases ot
    · rw [List.getElem?_set_ne q] at ej; exact ⟨q, ej⟩
  refine ⟨⟨fun b o q => ?_, fun b q => ?_, fun b q => ?_, fun b q => ?_, fun b q => ?_⟩, ⟨by rw [List.length_set]; exact a0.en.len, fun j t ej => ?_, fun j k t v z ne e1 e2 o1 o2 e3 => ?_⟩, ⟨fun b o q => mono b o (a0.gr.mono b o q), fun b o q1 q2 q3 => ?_, fun b q1 q2 => ?_⟩, fun j t b e1 o1 e2 => ?_⟩
  · by_cases hb : b = a
    · subst hb; rw [upd_same] at q ⊢; exact q
    · rw [upd_ne hb] at q ⊢; exact a0.hp.sub b o q
  · by_cases hb : b = a
    · subst hb; exact nT
    · rw [upd_ne hb] at q; exact a0.hp.noT b q
  · by_cases hb : b = a
    · subst hb; exact nd
    · rw [upd_ne hb] at q; exact a0.hp.noD b q
  · obtain ⟨ps, h1, h2⟩ := a0.hp.tab b q
    exact ⟨ps, by rw [upd_ne fun z => by subst z; exact nT q]; exact h1, h2⟩
  · obtain ⟨us, h1, h2⟩ := a0.hp.dr b q
    exact ⟨us, by rw [upd_ne fun z => by subst z; exact nd q]; exact h1, h2.mono mono⟩
  · by_cases q : i = j
    · subst q
      rw [List.getElem?_set_self hi] at ej
      cases ej
      exact ⟨_, hσ, hr⟩
    · rw [List.getElem?_set_ne q] at ej
      obtain ⟨v, h1, h2⟩ := a0.en.sl j t ej
      refine ⟨v, h1, ?_⟩
      have hne : t.own = true → v ≠ .ref a := fun ot z => by
        subst z
        exact a0.en.dist i j s t _ q e ej ho ot hσ h1
      cases t with
      | v d => exact Rep.mono mono h2
      | dr => exact h2
      | sc ns => let ⟨b, z, q⟩ := h2; exact ⟨b, z, sqL_mono mono q⟩
      | ol ds =>
        obtain ⟨b, vs, z, h3, h4, h5, h6⟩ := h2
        have nb : b ≠ a := fun y => hne rfl (by rw [z, y])
        exact ⟨b, vs, z, by rw [upd_ne nb]; exact h3, h4, by rw [upd_ne nb]; exact h5, h6.mono mono⟩
      | od kvs =>
        obtain ⟨b, o, z, h3, h4, h5, h6⟩ := h2
        have nb : b ≠ a := fun y => hne rfl (by rw [z, y])
        exact ⟨b, o, z, by rw [upd_ne nb]; exact h3, h4, by rw [upd_ne nb]; exact h5, h6.mono mono⟩
  · exact a0.en.dist j k t v z ne (key j t e1 o1).2 (key k v e2 o2).2 o1 o2 e3
  · rw [upd_ne (ne_of_none q1 n0)]
    exact a0.gr.keep b o q1 q2 q3
  · rw [upd_ne fun z => by subst z; exact q1 n0]
    exact a0.gr.nf b q1 q2
  · exact a0.fr j t b (key j t e1 o1).2 o1 e2
theorem DK1.mut {K : PySem.W.Frag} {F : Hp} {o : HO} {kds : List (D × D)} (h : DK1 K F o kds) : Mut (some o) := by
  obtain ⟨kvs, e, _⟩ := h
  subst e; exact True.intro
theorem ss_fz {rest : List Stmt} {g : Sf} (i : Nat) (h2 : SSs (gx X T) Wx X rest g) : SSs (gx X T) Wx X rest (sSeq (sFz i) g) := ⟨fun pins s σ H Dn I ⟨F0, H0, F, ad, ρ, w, a0, p⟩ => by
  have p := postS_seq p
  unfold sFz at p
  split at p
  · rename_i ds e
    obtain ⟨v, h1, a, vs, rfl, h3, h4, h5, h6⟩ := a0.en.sl i _ e
    exact h2.run pins s σ H Dn I (p σ _ H (a0.frz e rfl h1 h5 (fun ps z => by cases z) h3 h4 (.lst upd_same (h6.mono fun b o' q => by rw [upd_ne (ne_of_none q h3)]; exact q))))
  · rename_i kvs e
    obtain ⟨v, h1, a, o, rfl, h3, h4, h5, h6⟩ := a0.en.sl i _ e
    obtain ⟨ob, I1⟩ := I.lock h5 h6.mut
    have m : ∀ b o', F b = some o' → upd F a (.frz ob o) b = some o' := fun b o' q => by rw [upd_ne (ne_of_none q h3)]; exact q
    refine h2.run pins s σ _ Dn I1 (p σ _ _ (a0.frzD e rfl h1 h5 h6.notbl h3 h4 ?_))
    obtain ⟨kk, rfl, pr⟩ := h6
    obtain ⟨es, r, rfl⟩ := pr.zip
    exact .dK upd_same (r.mono m)
  · exact p.elim⟩
/-- what is asked of x.append(e), x.extend(e) -/
def sApp (i : Nat) (fa : Ef) : Sf := fun ρ w => match ρ[i]? with
  | some (some (.ol ds)) => bindS (fa ρ w) fun d w1 => if ds.length < sizeLine then .nx (ρ.set i (some (.ol (ds ++ [d])))) w1 else .bad
  | _ => .bad
theorem ss_append {i : Nat} (hv : PE X (.Name x p1) (tVar i)) (ha : SE (gx X T) Wx X e fa) (hst : starEach [e] X.env = (false, eval e X.env) :: starEach [] X.env := by rfl)
    (hbase : attributeBase (.Name x p1) "append" X.env (eval (.Name x p1) X.env) = eval (.Name x p1) X.env := by rfl)
    (hfew : ((backTo cpos (starEach [e] X.env)).all (fun x => !x.1) && (backToKw cpos (keywordEach [] X.env)).all (fun x => x.1.isSome)
      && decide ([e].length + ([] : List Keyword).length + (if ([] : List Keyword).isEmpty then 0 else 1) < 30)) = true := by rfl)
    (hline : (apos.endLine == cpos.line) = true := by rfl) (hplain : (backTo cpos (starEach [] X.env)).any (·.1) = false := by rfl) (hs : swapsWith (.Call (.Attribute (.Name x p1) "append" apos) [e] [] cpos) none pos.line X.env = pure false := by rfl) :
    SS (gx X T) Wx X (.Expr (.Call (.Attribute (.Name x p1) "append" apos) [e] [] cpos) pos) (sApp i fa) :=
  PS.imp (ps_expr (pe_bm PySem.F.plainAttrs_list PySem.F.slot_list_append PySem.F.type_list_append mt_append hv (pa_cons ha pa_nil hst) hbase hfew hline hst hplain) hs) fun Dn σ H ⟨F0, H0, F, ad, ρ, w, a0, p⟩ => by
    unfold sApp at p
    split at p
    case h_2 => exact p.elim
    rename_i ds e
    obtain ⟨v, h1, a, vs, rfl, h3, h4, h5, h6⟩ := a0.en.sl i _ e
    refine ⟨_, h1, .inl ⟨rfl, vs, SqL.of h5⟩, ?_⟩
    refine exprD_in a0 p fun F1 H1 w1 y dy a1 r p1 => ?_
    obtain ⟨v2, g1, a2, vs2, z2, g3, g4, g5, g6⟩ := a1.en.sl i _ e
    rw [h1] at g1
    cases g1
    cases z2
    split at p1
    · rename_i hl
      refine ⟨a, vs2, y, rfl, rfl, g5, by rw [g6.length]; exact hl, p1 σ F1 _ (a1.put e rfl h1 (notT a1.hp g5 fun ps z => by cases z) g3 g4 rfl ⟨a, vs2 ++ [y], rfl, g3, g4, upd_same, g6.snoc r⟩)⟩
    · exact p1.elim
/-- x.extend(e), e a list -/
def sExt (i : Nat) (fa : Ef) : Sf := fun ρ w => match ρ[i]? with
  | some (some (.ol ds)) => bindS (fa ρ w) fun d w1 => match d with
    | .list es => if ds.length + es.length ≤ sizeLine then .nx (ρ.set i (some (.ol (ds ++ es)))) w1 else .bad
    | _ => .bad
  | _ => .bad
theorem ss_extend {i : Nat} (hv : PE X (.Name x p1) (tVar i)) (ha : SE (gx X T) Wx X e fa) (hst : starEach [e] X.env = (false, eval e X.env) :: starEach [] X.env := by rfl)
    (hbase : attributeBase (.Name x p1) "extend" X.env (eval (.Name x p1) X.env) = eval (.Name x p1) X.env := by rfl)
    (hfew : ((backTo cpos (starEach [e] X.env)).all (fun x => !x.1) && (backToKw cpos (keywordEach [] X.env)).all (fun x => x.1.isSome)
      && decide ([e].length + ([] : List Keyword).length + (if ([] : List Keyword).isEmpty then 0 else 1) < 30)) = true := by rfl)
    (hline : (apos.endLine == cpos.line) = true := by rfl) (hplain : (backTo cpos (starEach [] X.env)).any (·.1) = false := by rfl) (hs : swapsWith (.Call (.Attribute (.Name x p1) "extend" apos) [e] [] cpos) none pos.line X.env = pure false := by rfl) :
    SS (gx X T) Wx X (.Expr (.Call (.Attribute (.Name x p1) "extend" apos) [e] [] cpos) pos) (sExt i fa) :=
  PS.imp (ps_expr (pe_bm PySem.F.plainAttrs_list PySem.F.slot_list_extend PySem.F.type_list_extend mt_extend hv (pa_cons ha pa_nil hst) hbase hfew hline hst hplain) hs) fun Dn σ H ⟨F0, H0, F, ad, ρ, w, a0, p⟩ => by
    unfold sExt at p
    split at p
    case h_2 => exact p.elim
    rename_i ds e
    obtain ⟨v, h1, a, vs, rfl, h3, h4, h5, h6⟩ := a0.en.sl i _ e
    refine ⟨_, h1, .inl ⟨rfl, vs, SqL.of h5⟩, ?_⟩
    refine exprD_in a0 p fun F1 H1 w1 y dy a1 r p1 => ?_
    obtain ⟨v2, g1, a2, vs2, z2, g3, g4, g5, g6⟩ := a1.en.sl i _ e
    rw [h1] at g1
    cases g1
    cases z2
    cases dy with
    | list es =>
      change PostS (gx X T) Wx F0 H0 ad Dn (if ds.length + es.length ≤ sizeLine then .nx (ρ.set i (some (.ol (ds ++ es)))) w1 else .bad) at p1
      split at p1
      · rename_i hl
        cases r with
        | @lst b us _ hb rb =>
          refine ⟨a, b, vs2, us, rfl, rfl, g5, a1.hp.sub _ _ hb, by rw [g6.length, rb.length]; exact hl, p1 σ F1 _ (a1.put e rfl h1 (notT a1.hp g5 fun ps z => by cases z) g3 g4 rfl ⟨a, vs2 ++ us, rfl, g3, g4, upd_same, g6.append rb⟩)⟩
      · exact p1.elim
    | _ => exact p1.elim
/-- x op= e at a name -/
def sAug (i : Nat) (g : D → D → Option D) (fa : Ef) : Sf := fun ρ w => match ρ[i]? with
  | some (some (.v d0)) => bindS (fa ρ w) fun d w1 => match g d0 d with
    | some z => .nx (ρ.set i (some (.v z))) w1
    | none => .bad
  | _ => .bad
theorem ss_aug {i : Nat} {op : Operator} {g : D → D → Option D} (ho : OpD X T (inplaceOp op) g) (hN : X.N.Nodup) (hi : X.N[i]? = some x) (hx : Loc X.env.scope x) (he : SB (gx X T) Wx X e fa)
    (hf : X.fn x = true ∨ X.env.scope.names.lookup x = some .local := by first | exact .inl rfl | exact .inr rfl | assumption) : SS (gx X T) Wx X (.AugAssign (.Name x pos') op e pos) (sAug i g fa) :=
  PS.imp (ps_aug (ti := rD X T g) hN hi hx he (fun pins s σ H x y v u Q I rx ry h => ho.r pins s σ H x y v u Q I rx ry h) hf) fun Dn σ H ⟨F0, H0, F, ad, ρ, w, a0, p⟩ => by
    unfold sAug at p
    split at p
    case h_2 => exact p.elim
    rename_i d0 e
    obtain ⟨v, h1, r0⟩ := a0.en.sl i _ e
    refine ⟨v, h1, exprB_in a0 p fun F1 H1 w1 y dy a1 r p1 => ?_⟩
    obtain ⟨v2, g1, r1⟩ := a1.en.sl i _ e
    rw [h1] at g1
    cases g1
    cases q : g d0 dy with
    | none => simp only [q] at p1; exact p1.elim
    | some z =>
      simp only [q] at p1
      refine ⟨F1, ad, w1, d0, dy, z, a1.hp, .inl r1, r, q, fun u F2 H2 h2 g2 r2 => ?_⟩
      have a2 := a1.grow h2 g2
      obtain ⟨h3, h4⟩ := a2.en.setV r2 (List.getElem?_eq_some_iff.mp e).1
      exact p1 _ F2 H2 (a2.env h3 h4)
theorem iod_int0 {op : Operator} {g : Int → Int → Int} {go : D → D → Option D} (h : OpR X (inplaceOp op) (rI0 fun i j => .int (g i j)))
    (hg : ∀ dx dy d, go dx dy = some d → ∃ i j, dx = .int i ∧ dy = .int j ∧ d = .int (g i j)) : OpD X T (inplaceOp op) go := od_int0 h hg
def dIadd : D → D → Option D := onI (fun _ _ => true) (· + ·)
theorem iod_add : OpD X T (inplaceOp .Add) dIadd := od_int0 iop_add fun dx dy d e => let ⟨i, j, h1, h2, _, h3⟩ := onI_out dx dy d e; ⟨i, j, h1, h2, h3⟩
theorem iod_sub : OpD X T (inplaceOp .Sub) dSub := od_int0 iop_sub fun dx dy d e => let ⟨i, j, h1, h2, _, h3⟩ := onI_out dx dy d e; ⟨i, j, h1, h2, h3⟩

/-! ### while -/
def whl (test : Ev → Wd → R Bool) (body : Sf) : Nat → Sf
  | 0 => fun _ _ => .bad
  | n + 1 => fun ρ w => bindS (test ρ w) fun b w1 => if b = true then (match body ρ w1 with
    | .nx ρ2 w2 => whl test body n ρ2 w2
    | .ct ρ2 w2 => whl test body n ρ2 w2
    | .bk ρ2 w2 => .nx ρ2 w2
    | r => r) else .nx ρ w1
theorem ss_while {c : Expr} {body : List Stmt} {tc : Ev → Wd → R Bool} {fb : Sf} (n : Nat) (hp : PassesOwn (model X.prog X.w) X.A X.env X.xe) (hc : ST (gx X T) Wx X c tc) (hb : SSs (gx X T) Wx X body fb) : SS (gx X T) Wx X (.While c body [] pos) (whl tc fb n) :=
  PS.imp (ps_while hp hc hb) fun Dn σ H ⟨F0, H0, F, ad, ρ, w, a0, p⟩ => by
    refine ⟨fun m σ H => ∃ F ρ w, AtS (gx X T) F0 H0 F ad σ H ρ w ∧ PostS (gx X T) Wx F0 H0 ad Dn (whl tc fb m ρ w), ⟨n, F, ρ, w, a0, p⟩, fun m σ H hW => ?_⟩
    obtain ⟨F, ρ, w, a0, p⟩ := hW
    cases m with
    | zero => exact p.elim
    | succ m =>
      refine test_in a0 p fun F1 H1 w1 k a1 p1 => ?_
      cases k with
      | false => rw [if_neg Bool.false_ne_true] at p1 ⊢; exact p1 σ F1 H1 a1
      | true =>
        rw [if_pos rfl] at p1 ⊢
        refine ⟨fun σ' H' => ∃ F ρ w, AtS (gx X T) F0 H0 F ad σ' H' ρ w ∧ PostS (gx X T) Wx F0 H0 ad Dn (whl tc fb m ρ w), fun σ' H' q => ⟨m, Nat.lt_succ_self m, q⟩, F0, H0, F1, ad, ρ, w1, a1, ?_⟩
        cases q : fb ρ w1 with
        | nx ρ2 w2 => simp only [q] at p1; exact fun σ2 F2 H2 a2 => ⟨F2, ρ2, w2, a2, p1⟩
        | ct ρ2 w2 => simp only [q] at p1; exact fun σ2 F2 H2 a2 => ⟨F2, ρ2, w2, a2, p1⟩
        | bk ρ2 w2 => simp only [q] at p1; exact p1
        | rt d w2 => simp only [q] at p1; exact p1
        | ro ds w2 => simp only [q] at p1; exact p1
        | exc c w2 => simp only [q] at p1; exact p1
        | bad => simp only [q] at p1; exact p1
end
end DL

set_option Elab.async false
set_option linter.all false
set_option maxRecDepth 100000
set_option maxHeartbeats 2000000
namespace DL
open PySem PySem.Spec PySem.SeqAt PySem.W L2

/-! ### what is walked -/
/-- J gives the items ds, whatever is done to the heap between -/
def ItOk (G : Gx) (ad : Option Addr) (F : Hp) (J : It) (ds : List D) : Prop := ∀ F2 H2 w2, HeapOk G F2 ad H2 w2 → (∀ a o, F a = some o → F2 a = some o) →
  (∀ i, i < ds.length → J.go i H2) ∧ J.stop ds.length H2 ∧ ∀ i x H3, i < ds.length → J.yld i H2 x H3 → ∃ F3 d, ds[i]? = some d ∧ HeapOk G F3 ad H3 w2 ∧ Grow G ad F2 H2 F3 H3 ∧ Rep G.K F3 x d
def tI (G : Gx) (Wx : WX) (fi : Ev → Wd → R (List D)) : TI := fun σ H Z => ∃ F ad ρ w, At G F ad σ H ρ w ∧ Post G Wx σ F ad H (fun ds _ F' H' => ∀ J, ItOk G ad F' J ds → Z J H') (fi ρ w)
abbrev SI (G : Gx) (Wx : WX) (X : Cx) (tg iter : Expr) (fi : Ev → Wd → R (List D)) : Prop := PI X tg iter (tI G Wx fi)
theorem PI.imp {X : Cx} {tg e : Expr} {t t' : TI} (h : PI X tg e t) (i : ∀ σ H Q, t' σ H Q → t σ H Q) : PI X tg e t' := ⟨fun pins s σ H Q I q => h.run pins s σ H Q I (i σ H Q q)⟩
theorem RepL.at' {K : PySem.W.Frag} {F : Hp} {vs : List V} {ds : List D} (h : RepL K F vs ds) {i : Nat} (hi : i < ds.length) : ∃ v, vs[i]? = some v ∧ ∃ d, ds[i]? = some d ∧ Rep K F v d := by
  have hv : i < vs.length := by rw [h.length]; exact hi
  obtain ⟨d, h1, h2⟩ := h.at i (List.getElem?_eq_getElem hv)
  exact ⟨_, List.getElem?_eq_getElem hv, d, h1, h2⟩
theorem it_list {G : Gx} {ad : Option Addr} {F : Hp} {a : Addr} {vs : List V} {ds : List D} (e : F a = some (.lst vs)) (r : RepL G.K F vs ds) : ItOk G ad F (Itl G.K a) ds := fun F2 H2 w2 h2 m => by
  have q : SqL G.K H2 a vs := SqL.of (h2.sub _ _ (m _ _ e))
  have w := walk_list (K := G.K) (a := a) (xs := vs)
  rw [← r.length]
  refine ⟨fun i hi => w.goes i H2 hi q, w.stops H2 q, fun i x H3 hi y => ?_⟩
  obtain ⟨e1, e2⟩ := w.yields i H2 x H3 hi q y
  obtain ⟨d, h3, h4⟩ := r.at i e2
  rw [e1]
  exact ⟨F2, d, h3, h2, Grow.refl, h4.mono m⟩
theorem it_tup {G : Gx} {ad : Option Addr} {F : Hp} {a : Addr} {vs : List V} {ds : List D} (e : SqT G.K F a vs) (r : RepL G.K F vs ds) : ItOk G ad F (Itt G.K a) ds := fun F2 H2 w2 h2 m => by
  have q : SqT G.K H2 a vs := sqT_mono h2.sub (sqT_mono m e)
  have w := walk_tup (K := G.K) (a := a) (xs := vs)
  rw [← r.length]
  refine ⟨fun i hi => w.goes i H2 hi q, w.stops H2 q, fun i x H3 hi y => ?_⟩
  obtain ⟨e1, e2⟩ := w.yields i H2 x H3 hi q y
  obtain ⟨d, h3, h4⟩ := r.at i e2
  rw [e1]
  exact ⟨F2, d, h3, h2, Grow.refl, h4.mono m⟩
def intsD (lo : Int) (n : Nat) : List D := (List.range n).map fun k => .int (lo + (k : Nat))
theorem it_range {G : Gx} {ad : Option Addr} {F : Hp} {lo : Int} {n : Nat} : ItOk G ad F (Itr lo n) (intsD lo n) := fun F2 H2 w2 h2 m => by
  have w := walk_range (lo := lo) (n := n)
  have hl : (intsD lo n).length = n := by simp [intsD]
  rw [hl]
  refine ⟨fun i hi => w.goes i H2 hi True.intro, w.stops H2 True.intro, fun i x H3 hi y => ?_⟩
  obtain ⟨e1, e2⟩ := w.yields i H2 x H3 hi True.intro y
  rw [e1, e2]
  exact ⟨F2, .int (lo + (i : Nat)), by simp [intsD, hi], h2, Grow.refl, .int _⟩
section
variable {X : Cx} {T : Addr → Prop} {Wx : WX} {tg l a b c : Expr} {fa fb fc : Ef} {pos p : Pos}
/-- a list or a tuple -/
def iSeq (K : PySem.W.Frag) (tl : TE) : TI := fun σ H R => tl σ H fun x H1 => ∃ a, x = .ref a ∧ (((∃ xs, SqL K H1 a xs) ∧ R (Itl K a) H1) ∨ ((∃ xs, SqT K H1 a xs) ∧ R (Itt K a) H1))
theorem pi_seq {tl : TE} (hl : PE X l tl) : PI X tg l (iSeq X.K tl) := by
  refine ⟨fun pins s σ H R I h => ?_⟩
  refine thn (hl.run pins s σ H _ I h) fun v s1 ⟨x, H1, I1, r1, q1⟩ => ?_
  obtain ⟨a, e, q⟩ := q1
  subst e
  cases r1
  rcases q with ⟨⟨xs, hq⟩, q⟩ | ⟨⟨xs, hq⟩, q⟩
  · obtain ⟨its, rv, p, hz⟩ := I1.list hq
    refine wpAny_pyIter_list p.isList ?_
    refine ⟨s1.heap.objs.size, [s1.heap.objs.size], _, _, H1, rfl, I1.kept (t' := s1.toks) fun b o e => Heap.get?_push_of_some _ e, turn_list a _, ⟨_, Heap.get?_push_size _ rfl, rfl, rfl⟩, fun b hb => ?_, q⟩
    have e : b = s1.heap.objs.size := by simpa using hb
    subst e
    exact I1.fpOk (Nat.le_refl _) (I1.hok.fresh (Nat.le_refl _))
  · obtain ⟨its, rv, p, hz⟩ := I1.tuple hq
    refine wpAny_pyIter_tuple (show s1.heap.IsTuple a its.toArray from p) ?_
    refine ⟨s1.heap.objs.size, [s1.heap.objs.size], _, _, H1, rfl, I1.kept (t' := s1.toks) fun b o e => Heap.get?_push_of_some _ e, turn_tuple a _, ⟨_, Heap.get?_push_size _ rfl, rfl, rfl⟩, fun b hb => ?_, q⟩
    have e : b = s1.heap.objs.size := by simpa using hb
    subst e
    exact I1.fpOk (Nat.le_refl _) (I1.hok.fresh (Nat.le_refl _))
def seqOf : D → Option (List D)
  | .list ds => some ds
  | .tuple ds => some ds
  | _ => none
def iS (fa : Ef) : Ev → Wd → R (List D) := fun ρ w => (fa ρ w).bind fun d w1 => R.of w1 (seqOf d)
theorem si_seq (ha : SE (gx X T) Wx X l fa) : SI (gx X T) Wx X tg l (iS fa) := PI.imp (pi_seq ha) fun σ H Q ⟨F, ad, ρ, w, a0, p⟩ => unE_in a0 p fun F1 H1 w1 x dx a1 _ rx p1 => by
  cases rx with
  | lst e r => exact ⟨_, rfl, .inl ⟨⟨_, SqL.of (a1.hp.sub _ _ e)⟩, p1 F1 H1 a1.hp Grow.refl _ (it_list e r)⟩⟩
  | tup e r => exact ⟨_, rfl, .inr ⟨⟨_, sqT_mono a1.hp.sub e⟩, p1 F1 H1 a1.hp Grow.refl _ (it_tup e r)⟩⟩
  | _ => exact p1.elim
def rgOk (i : Int) : Bool := decide (-(2 ^ 62) ≤ i) && decide (i < 2 ^ 62)
def iR1 (fa : Ef) : Ev → Wd → R (List D) := fun ρ w => (fa ρ w).bind fun d w1 => match d with
  | .int j => if rgOk j = true then .ok (intsD 0 j.toNat) w1 else .bad
  | _ => .bad
theorem si_r1 (hg : Gl X "range") (hm : X.mg "range" = none) (ha : SB (gx X T) Wx X a fa) (hs : starEach [a] X.env = [(false, eval a X.env)] := by rfl) : SI (gx X T) Wx X tg (.Call (.Name "range" p) [a] [] pos) (iR1 fa) :=
  PI.imp (pi_range1 hg hm (pa_cons ha pa_nil hs) hs) fun σ H Q ⟨F, ad, ρ, w, a0, p⟩ => un_in a0 p fun F1 H1 w1 x dx a1 _ rx p1 => by
    cases dx with
    | int j =>
      change Post (gx X T) Wx σ F1 ad H1 _ (if rgOk j = true then .ok (intsD 0 j.toNat) w1 else .bad) at p1
      split at p1
      · rename_i h
        have h' : -(2 ^ 62) ≤ j ∧ j < 2 ^ 62 := by simpa [rgOk] using h
        exact ⟨j, by rw [rx.int], h'.1, h'.2, p1 F1 H1 a1.hp Grow.refl _ it_range⟩
      · exact p1.elim
    | _ => exact p1.elim
def iR2 (fa fb : Ef) : Ev → Wd → R (List D) := fun ρ w => (fa ρ w).bind fun d w1 => (fb ρ w1).bind fun e w2 => match d, e with
  | .int i, .int j => if (rgOk i && rgOk j) = true then .ok (intsD i (j - i).toNat) w2 else .bad
  | _, _ => .bad
theorem si_r2 (hg : Gl X "range") (hm : X.mg "range" = none) (ha : SB (gx X T) Wx X a fa) (hb : SB (gx X T) Wx X b fb) (hs : starEach [a, b] X.env = [(false, eval a X.env), (false, eval b X.env)] := by rfl) (hs2 : starEach [b] X.env = [(false, eval b X.env)] := by rfl) :
    SI (gx X T) Wx X tg (.Call (.Name "range" p) [a, b] [] pos) (iR2 fa fb) :=
  PI.imp (pi_range2 hg hm (pa_cons ha (pa_cons hb pa_nil hs2) (hs.trans (by rw [hs2]))) hs hs2) fun σ H Q ⟨F, ad, ρ, w, a0, p⟩ => bin_in a0 p fun F1 H1 w1 x y dx dy a1 _ rx ry p1 => by
    cases dx with
    | int i =>
      cases dy with
      | int j =>
        change Post (gx X T) Wx σ F1 ad H1 _ (if (rgOk i && rgOk j) = true then .ok (intsD i (j - i).toNat) w1 else .bad) at p1
        split at p1
        · rename_i h
          have h' : (-(2 ^ 62) ≤ i ∧ i < 2 ^ 62) ∧ -(2 ^ 62) ≤ j ∧ j < 2 ^ 62 := by simpa [rgOk] using h
          exact ⟨i, j, by rw [rx.int, ry.int], ⟨h'.1.1, h'.1.2, h'.2.1, h'.2.2⟩, p1 F1 H1 a1.hp Grow.refl _ it_range⟩
        · exact p1.elim
      | _ => exact p1.elim
    | _ => exact p1.elim

section
variable {G : Gx} {Wx : WX} {F0 H0 F1 H1 F H : Hp} {ad : Option Addr} {σ : St} {ρ : Ev} {w : Wd} {Dn : Ends}
theorem Grow.base (g1 : Grow G ad F0 H0 F1 H1) (g : Grow G ad F1 H0 F H) : Grow G ad F0 H0 F H :=
  ⟨fun a o e => g.mono a o (g1.mono a o e), g.keep, fun a h1 h2 => g.nf a h1 (g1.nf a h1 h2)⟩
theorem Grow.rebase (g1 : Grow G ad F0 H0 F1 H1) (g : Grow G ad F0 H0 F H) (m : ∀ a o, F1 a = some o → F a = some o) : Grow G ad F1 H0 F H :=
  ⟨m, g.keep, fun a h1 h2 => g.nf a h1 (by
    cases q : F0 a with
    | none => rfl
    | some o => rw [g1.mono a o q] at h2; cases h2)⟩
theorem AtS.base (g1 : Grow G ad F0 H0 F1 H1) (a : AtS G F1 H0 F ad σ H ρ w) : AtS G F0 H0 F ad σ H ρ w := ⟨a.hp, a.en, g1.base a.gr, a.fr⟩
theorem AtS.rebase (g1 : Grow G ad F0 H0 F1 H1) (a : AtS G F0 H0 F ad σ H ρ w) (m : ∀ a o, F1 a = some o → F a = some o) : AtS G F1 H0 F ad σ H ρ w := ⟨a.hp, a.en, g1.rebase a.gr m, a.fr⟩
end

/-! ### for -/
def forL (tgt : Tg) (body : Sf) : List D → Sf
  | [] => sNil
  | d :: ds => fun ρ w => match tgt d ρ with
    | none => .bad
    | some ρ1 => match body ρ1 w with
      | .nx ρ2 w2 => forL tgt body ds ρ2 w2
      | .ct ρ2 w2 => forL tgt body ds ρ2 w2
      | .bk ρ2 w2 => .nx ρ2 w2
      | r => r
def sFor (fi : Ev → Wd → R (List D)) (tgt : Tg) (body : Sf) : Sf := fun ρ w => bindS (fi ρ w) fun ds w1 => forL tgt body ds ρ w1
theorem drop_cons {α : Type} {l : List α} {i : Nat} {d : α} (h : l[i]? = some d) : l.drop i = d :: l.drop (i + 1) := by
  obtain ⟨h1, h2⟩ := List.getElem?_eq_some_iff.mp h
  rw [← h2]
  exact List.drop_eq_getElem_cons h1
theorem ss_for {iter : Expr} {body : List Stmt} {fi : Ev → Wd → R (List D)} {tgt : Tg} {ix : List Nat} {fb : Sf} (hp : PassesOwn (model X.prog X.w) X.A X.env X.xe) (hc : X.calm = true) (hi : SI (gx X T) Wx X tg iter fi) (hg : SG (gx X T) X tg ix tgt)
    (hb : SSs (gx X T) Wx X body fb) (hs : ∀ x, foldedSetIterable iter X.env x = pure x := by intro _; rfl) : SS (gx X T) Wx X (.For tg iter body [] pos) (sFor fi tgt fb) :=
  PS.imp (ps_for hp hc hi hg hb hs) fun Dn σ H ⟨F0, H0, F, ad, ρ, w, a0, p⟩ => ⟨F, ad, ρ, w, a0.at, (expr_post a0 p).imp fun ds w1 F1 H1 h1 g1 q J hJ => by
    obtain ⟨a1, p1⟩ := q
    refine ⟨fun i m σ H => ∃ F ρ w, AtS (gx X T) F0 H0 F ad σ H ρ w ∧ (∀ a o, F1 a = some o → F a = some o) ∧ m = ds.length - i ∧ i ≤ ds.length ∧ PostS (gx X T) Wx F0 H0 ad Dn (forL tgt fb (ds.drop i) ρ w),
      ⟨ds.length, F1, ρ, w1, a1, fun _ _ e => e, rfl, Nat.zero_le _, p1⟩, fun i m σ H hW => ?_⟩
    obtain ⟨F, ρ, w, a2, mm, em, hi, p2⟩ := hW
    obtain ⟨k1, k2, k3⟩ := hJ F H w a2.hp mm
    by_cases hlt : i < ds.length
    · refine .inr ⟨k1 i hlt, fun σ' H' => ∃ F ρ w, AtS (gx X T) F0 H0 F ad σ' H' ρ w ∧ (∀ a o, F1 a = some o → F a = some o) ∧ PostS (gx X T) Wx F0 H0 ad Dn (forL tgt fb (ds.drop (i + 1)) ρ w), fun σ' H' z => ?_, fun x H' y => ?_⟩
      · obtain ⟨F, ρ, w, a3, m3, p3⟩ := z
        exact ⟨ds.length - (i + 1), by omega, F, ρ, w, a3, m3, rfl, hlt, p3⟩
      · obtain ⟨F3, d, e1, h3, g3, r3⟩ := k3 i x H' hlt y
        rw [drop_cons e1] at p2
        have a3 := a2.grow h3 g3
        unfold forL at p2
        cases et : tgt d ρ with
        | none => simp only [et] at p2; exact p2.elim
        | some ρ1 =>
          simp only [et] at p2
          refine ⟨F3, ad, ρ, w, d, ρ1, a3.at, r3, et, fun σ' en o _ => ?_⟩
          have m3 : ∀ a o, F1 a = some o → F3 a = some o := fun a o e => g3.mono a o (mm a o e)
          refine ⟨F1, H0, F3, ad, ρ1, w, (a3.env en o).rebase a1.gr m3, ?_⟩
          cases q : fb ρ1 w with
          | nx ρ2 w2 => simp only [q] at p2; exact fun σ4 F4 H4 a4 => ⟨F4, ρ2, w2, a4.base a1.gr, a4.gr.mono, p2⟩
          | ct ρ2 w2 => simp only [q] at p2; exact fun σ4 F4 H4 a4 => ⟨F4, ρ2, w2, a4.base a1.gr, a4.gr.mono, p2⟩
          | bk ρ2 w2 => simp only [q] at p2; exact fun σ4 F4 H4 a4 => p2 σ4 F4 H4 (a4.base a1.gr)
          | rt d w2 => simp only [q] at p2; exact fun v F4 H4 h4 g4 r4 => p2 v F4 H4 h4 (a1.gr.base g4) r4
          | ro ds w2 => simp only [q] at p2; exact fun a vs F4 H4 h4 g4 n4 e4 f4 r4 => p2 a vs F4 H4 h4 (a1.gr.base g4) n4 e4 f4 r4
          | exc c w2 =>
            simp only [q] at p2
            obtain ⟨C, e5, p5⟩ := p2
            exact ⟨C, e5, fun σ4 F4 H4 h4 g4 => p5 σ4 F4 H4 h4 (a1.gr.base g4)⟩
          | bad => simp only [q] at p2; exact p2
    · have e : i = ds.length := by omega
      subst e
      rw [List.drop_length] at p2
      exact .inl ⟨k2, p2 σ F H a2⟩⟩
end
end DL

set_option Elab.async false
set_option linter.all false
set_option maxRecDepth 100000
set_option maxHeartbeats 2000000
namespace DL
open PySem PySem.Spec PySem.SeqAt PySem.W L2

/-! ### list comprehensions -/
/-- nothing may be raised -/
abbrev W0 : WX := fun _ _ _ _ => False
def wipeE (ρ : Ev) : List Nat → Ev
  | [] => ρ
  | v :: vs => (wipeE ρ vs).set v none
theorem wipeE_length (ρ : Ev) : ∀ vs : List Nat, (wipeE ρ vs).length = ρ.length
  | [] => rfl
  | v :: vs => by unfold wipeE; rw [List.length_set, wipeE_length ρ vs]
theorem wipeE_some {ρ : Ev} {i : Nat} {s : Sl} : ∀ {vs : List Nat}, (wipeE ρ vs)[i]? = some (some s) → ρ[i]? = some (some s) ∧ i ∉ vs
  | [], h => ⟨h, by simp⟩
  | v :: vs, h => by
    unfold wipeE at h
    by_cases hi : v = i
    · subst hi
      by_cases hv : v < (wipeE ρ vs).length
      · rw [List.getElem?_set_self hv] at h; cases h
      · rw [List.getElem?_eq_none (by simpa using hv)] at h; cases h
    · rw [List.getElem?_set_ne hi] at h
      obtain ⟨h1, h2⟩ := wipeE_some h
      exact ⟨h1, by simp only [List.mem_cons, not_or]; exact ⟨fun e => hi e.symm, h2⟩⟩
theorem wipe_out {σ : St} {i : Nat} : ∀ {vs : List Nat}, i ∉ vs → (wipe σ vs)[i]? = σ[i]?
  | [], _ => rfl
  | v :: vs, h => by
    simp only [List.mem_cons, not_or] at h
    unfold wipe
    rw [List.getElem?_set_ne (Ne.symm h.1)]
    exact wipe_out h.2
theorem wipe_in {σ : St} {i : Nat} : ∀ {vs : List Nat}, i ∈ vs → i < σ.length → (wipe σ vs)[i]? = some none
  | v :: vs, h, hl => by
    unfold wipe
    by_cases e : v = i
    · subst e
      exact List.getElem?_set_self (by rw [wipe_length]; exact hl)
    · rw [List.getElem?_set_ne e]
      exact wipe_in ((List.mem_cons.mp h).resolve_left (Ne.symm e)) hl
theorem wipe_eq {σ σ' : St} {vs : List Nat} (hl : σ'.length = σ.length) (h : ∀ j, j ∉ vs → σ'[j]? = σ[j]?) : wipe σ' vs = wipe σ vs := by
  apply List.ext_getElem?
  intro i
  by_cases hi : i ∈ vs
  · by_cases hb : i < σ.length
    · rw [wipe_in hi hb, wipe_in hi (by rw [hl]; exact hb)]
    · rw [List.getElem?_eq_none (by rw [wipe_length]; omega), List.getElem?_eq_none (by rw [wipe_length]; omega)]
  · rw [wipe_out hi, wipe_out hi]
    exact h i hi
theorem wipe_wipe {σ : St} {vs : List Nat} : wipe (wipe σ vs) vs = wipe σ vs := wipe_eq (wipe_length σ vs) fun j hj => wipe_out hj
theorem EnvOk.wipe {G : Gx} {F H : Hp} {ad : Option Addr} {σ : St} {ρ : Ev} {vs : List Nat} (h : EnvOk G F ad σ H ρ) : EnvOk G F ad (L2.wipe σ vs) H (wipeE ρ vs) where
  len := by rw [wipeE_length, wipe_length]; exact h.len
  sl := fun i s e => by
    obtain ⟨h1, h2⟩ := wipeE_some e
    obtain ⟨v, h3, h4⟩ := h.sl i s h1
    exact ⟨v, by rw [wipe_out h2]; exact h3, h4⟩
  dist := fun i j s t v ne e1 e2 o1 o2 e3 => by
    obtain ⟨h1, h2⟩ := wipeE_some e1
    obtain ⟨h3, h4⟩ := wipeE_some e2
    rw [wipe_out h2] at e3
    rw [wipe_out h4]
    exact h.dist i j s t v ne h1 h3 o1 o2 e3
/-- the comprehension's turns -/
def lcL (tgt : Tg) (tt : Ev → Wd → R Bool) (fe : Ef) (ρ : Ev) : List D → Wd → R (List D)
  | [], w => .ok [] w
  | d :: ds, w => match tgt d ρ with
    | none => .bad
    | some ρ1 => (tt ρ1 w).bind fun b w1 => if b = true then (fe ρ1 w1).bind fun y w2 => (lcL tgt tt fe ρ ds w2).bind fun ys w3 => .ok (y :: ys) w3 else lcL tgt tt fe ρ ds w1
/-- exceptions within are not known -/
def R.calm {α : Type} : R α → R α
  | .exc _ _ => .bad
  | r => r
def oLc (fi : Ev → Wd → R (List D)) (tgt : Tg) (tt : Ev → Wd → R Bool) (fe : Ef) (vs : List Nat) : Ev → Wd → R (List D) := fun ρ w =>
  (fi ρ w).bind fun ds w1 => if ds.length ≤ sizeLine then (lcL tgt tt fe (wipeE ρ vs) ds w1).calm else .bad
def oYes : Ev → Wd → R Bool := fun _ w => .ok true w
/-- a clause's tests -/
def tTs (G : Gx) (Wx : WX) (f : Ev → Wd → R Bool) : TT := tT G Wx f
theorem pts_yes {X : Cx} {T : Addr → Prop} : PTs X [] (tT (gx X T) W0 oYes) := ⟨fun pins s σ H Q I h => pts_nil.run pins s σ H Q I (by
  obtain ⟨F, ad, ρ, w, a0, p⟩ := h
  exact p F H a0.hp Grow.refl)⟩
theorem R.calm_ok {α : Type} {r : R α} {P : α → Wd → Hp → Hp → Prop} {G : Gx} {Wx Wx' : WX} {σ σ' : St} {F H : Hp} {ad : Option Addr} (h : Post G Wx σ F ad H P r.calm) : Post G Wx' σ' F ad H P r := by
  cases r with
  | ok a w => exact h
  | exc c w => exact h.elim
  | bad => exact h.elim
section
variable {X : Cx} {T : Addr → Prop} {Wx : WX} {elt tg iter : Expr} {ifs : List Expr} {scope : Scope} {own : List (Str × Nat)} {pos spos : Pos} {fi : Ev → Wd → R (List D)} {tgt : Tg} {ix : List Nat} {tt : Ev → Wd → R Bool} {fe : Ef}
/-- the heart -/
theorem lc_in {vs : List Nat} {σ : St} {H : Hp} {Q : VK} (hix : ∀ i ∈ ix, i ∈ vs) (h : tO (gx X T) Wx (oLc fi tgt tt fe vs) σ H Q) : tLc (tI (gx X T) Wx fi) (tG (gx X T) ix tgt) (tT (gx X T) W0 tt) (tD (gx X T) W0 fe) vs σ H Q := by
  obtain ⟨F, ad, ρ, w, a0, p⟩ := h
  refine ⟨F, ad, ρ, w, a0, (p.bind a0.hp).imp fun ds w1 F1 H1 h1 g1 p1 J hJ L hL => ?_⟩
  by_cases hlen : ds.length ≤ sizeLine
  case neg =>
    simp only [hlen, if_false] at p1
    exact p1.elim
  simp only [hlen, if_true] at p1
  have nT1 : ¬ T L := fun z => h1.tN L z hL
  have nD1 : ad ≠ some L := fun z => h1.dN L z hL
  have hH : H L = none := by
    cases q : H L with
    | none => rfl
    | some o =>
      have := g1.keep L o q nT1 nD1
      rw [hL] at this; cases this
  have hF1 : F1 L = none := by
    cases q : F1 L with
    | none => rfl
    | some o => have := h1.sub L o q; rw [hL] at this; cases this
  obtain ⟨h2, g2⟩ := h1.new (o := .lst []) hL
  have a1 := a0.grow h1 g1
  have a2 := a1.grow h2 g2
  refine ⟨fun i m H' => ∃ F2 w2 us acc, HeapOk (gx X T) F2 ad H' w2 ∧ Grow (gx X T) ad F1 H1 F2 H' ∧ H' L = some (.lst us) ∧ F2 L = none ∧ RepL X.K F2 us acc ∧ acc.length ≤ i ∧ m = ds.length - i ∧ i ≤ ds.length ∧
      Post (gx X T) Wx σ F1 ad H1 (fun ds x F' H' => ∀ (a : Addr) (vs : List V), H a = none → H' a = some (.lst vs) → F' a = none → RepL X.K F' vs ds → Q (.ref a) H') ((lcL tgt tt fe (wipeE ρ vs) (ds.drop i) w2).bind fun ys w3 => .ok (acc ++ ys) w3).calm, ?_, fun i m H' hW => ?_⟩
  · refine ⟨ds.length, F1, w1, [], [], h2, g2, upd_same, hF1, .nil, Nat.le_refl _, rfl, Nat.zero_le _, ?_⟩
    have e : ∀ r : R (List D), (r.bind fun ys w3 => R.ok ([] ++ ys) w3) = r := fun r => by cases r <;> rfl
    rw [e]
    exact p1
  · obtain ⟨F2, w2, us, acc, h3, g3, hL3, hF3, r3, hacc, hm, hi, p3⟩ := hW
    obtain ⟨k1, k2, k3⟩ := hJ F2 H' w2 h3 g3.mono
    by_cases hlt : i < ds.length
    · refine .inr ⟨k1 i hlt, fun H4 => ∃ F4 w4 us acc, HeapOk (gx X T) F4 ad H4 w4 ∧ Grow (gx X T) ad F1 H1 F4 H4 ∧ H4 L = some (.lst us) ∧ F4 L = none ∧ RepL X.K F4 us acc ∧ acc.length ≤ i + 1 ∧
        Post (gx X T) Wx σ F1 ad H1 (fun ds x F' H' => ∀ (a : Addr) (vs : List V), H a = none → H' a = some (.lst vs) → F' a = none → RepL X.K F' vs ds → Q (.ref a) H') ((lcL tgt tt fe (wipeE ρ vs) (ds.drop (i + 1)) w4).bind fun ys w3 => .ok (acc ++ ys) w3).calm,
        fun H4 z => ?_, fun x H4 y => ?_⟩
      · obtain ⟨F4, w4, us, acc, z1, z2, z3, z4, z5, z6, z7⟩ := z
        exact ⟨ds.length - (i + 1), by omega, F4, w4, us, acc, z1, z2, z3, z4, z5, z6, rfl, hlt, z7⟩
      · obtain ⟨F4, d, e1, h4, g4, r4⟩ := k3 i x H4 hlt y
        rw [drop_cons e1] at p3
        unfold lcL at p3
        have hL4 : H4 L = some (.lst us) := g4.keep L _ hL3 nT1 nD1
        have hF4 : F4 L = none := g4.nf L (by rw [hL3]; exact fun z => by cases z) hF3
        have g14 := g3.then h3 g4
        have r3 := r3.mono g4.mono
        have a4 : At (gx X T) F4 ad (wipe σ vs) H4 (wipeE ρ vs) w2 := ⟨h4, (a1.en.grow a1.hp g14).wipe⟩
        cases et : tgt d (wipeE ρ vs) with
        | none => simp only [et] at p3; exact p3.elim
        | some ρ1 =>
          simp only [et] at p3
          refine ⟨F4, ad, wipeE ρ vs, w2, d, ρ1, a4, r4, et, fun σ2 en2 _ os => ⟨?_, ?_⟩⟩
          · have e := wipe_eq (σ := wipe σ vs) (vs := vs) os.1 fun j hj => os.2 j fun z => hj (hix j z)
            rw [e]; exact wipe_wipe
          · refine ⟨F4, ad, ρ1, w2, ⟨h4, en2⟩, ?_⟩
            cases eb : tt ρ1 w2 with
            | bad => simp only [eb] at p3; exact p3.elim
            | exc c w => simp only [eb] at p3; exact p3.elim
            | ok b w5 =>
              simp only [eb] at p3
              intro F5 H5 h5 g5
              have hL5 : H5 L = some (.lst us) := g5.keep L _ hL4 nT1 nD1
              have hF5 : F5 L = none := g5.nf L (by rw [hL4]; exact fun z => by cases z) hF4
              have g15 := g14.then h4 g5
              have r5 := r3.mono g5.mono
              cases b with
              | false =>
                show (if _ then _ else _)
                rw [if_neg Bool.false_ne_true]
                exact ⟨F5, w5, us, acc, h5, g15, hL5, hF5, r5, Nat.le_succ_of_le hacc, p3⟩
              | true =>
                show (if _ then _ else _)
                rw [if_pos rfl]
                have p3 : Post (gx X T) Wx σ F1 ad H1 (fun ds x F' H' => ∀ (a : Addr) (vs : List V), H a = none → H' a = some (.lst vs) → F' a = none → RepL X.K F' vs ds → Q (.ref a) H')
                  (((fe ρ1 w5).bind fun y w2 => (lcL tgt tt fe (wipeE ρ vs) (ds.drop (i + 1)) w2).bind fun ys w3 => .ok (y :: ys) w3).bind fun ys w3 => .ok (acc ++ ys) w3).calm := p3
                refine ⟨F5, ad, ρ1, w5, ⟨h5, en2.grow h4 g5⟩, ?_⟩
                cases ef : fe ρ1 w5 with
                | bad => simp only [ef] at p3; exact p3.elim
                | exc c w => simp only [ef] at p3; exact p3.elim
                | ok y w6 =>
                  simp only [ef] at p3
                  intro F6 H6 h6 g6 v rv
                  have hL6 : H6 L = some (.lst us) := g6.keep L _ hL5 nT1 nD1
                  have hF6 : F6 L = none := g6.nf L (by rw [hL5]; exact fun z => by cases z) hF5
                  have g16 := g15.then h5 g6
                  refine ⟨us, hL6, by rw [r5.length]; exact Nat.lt_of_le_of_lt hacc (Nat.lt_of_lt_of_le hlt hlen), F6, w6, us ++ [v], acc ++ [y], ?_, ?_, upd_same, hF6, (r5.mono g6.mono).snoc rv, by simp; omega, ?_⟩
                  · refine ⟨fun b o q => ?_, h6.noT, h6.noD, fun b q => ?_, fun b q => ?_⟩
                    · rw [upd_ne (ne_of_none q hF6)]; exact h6.sub b o q
                    · obtain ⟨ps, e, t⟩ := h6.tab b q
                      exact ⟨ps, by rw [upd_ne fun z => by subst z; exact nT1 q]; exact e, t⟩
                    · obtain ⟨us, e, r⟩ := h6.dr b q
                      exact ⟨us, by rw [upd_ne fun z => by subst z; exact nD1 q]; exact e, r⟩
                  · exact ⟨g16.mono, fun b o q n1 n2 => by rw [upd_ne (ne_of_none q hL)]; exact g16.keep b o q n1 n2, g16.nf⟩
                  · have p3 : Post (gx X T) Wx σ F1 ad H1 (fun ds x F' H' => ∀ (a : Addr) (vs : List V), H a = none → H' a = some (.lst vs) → F' a = none → RepL X.K F' vs ds → Q (.ref a) H')
                      (((lcL tgt tt fe (wipeE ρ vs) (ds.drop (i + 1)) w6).bind fun ys w3 => .ok (y :: ys) w3).bind fun ys w3 => .ok (acc ++ ys) w3).calm := p3
                    have e : ∀ r : R (List D), ((r.bind fun ys w3 => .ok (y :: ys) w3).bind fun ys w3 => R.ok (acc ++ ys) w3) = r.bind fun ys w3 => .ok (acc ++ [y] ++ ys) w3 := fun r => by
                      cases r with
                      | ok a w => show R.ok _ _ = R.ok _ _; simp
                      | exc c w => rfl
                      | bad => rfl
                    rw [e] at p3
                    exact p3
    · have e : i = ds.length := by omega
      subst e
      rw [List.drop_length] at p3
      refine .inl ⟨k2, ?_⟩
      have p3 : Post (gx X T) Wx σ F1 ad H1 (fun ds x F' H' => ∀ (a : Addr) (vs : List V), H a = none → H' a = some (.lst vs) → F' a = none → RepL X.K F' vs ds → Q (.ref a) H') (R.ok (acc ++ []) w2) := p3
      rw [List.append_nil] at p3
      exact p3 F2 H' h3 g3 L us hH hL3 hF3 r3
theorem so_lc (hc : X.calm = true) (hN : X.N.Nodup) (hi : SI (gx X T) Wx X tg iter fi) (ok : BlkOk X.N X.env.scope scope own) (hix : ∀ i ∈ ix, i ∈ own.map (·.2))
    (hg : ∀ (s : Shared) (H : Hp) (C : Addr) (cl : List (Str × Addr)) (fp : List Addr), SG (gx X T) (X.blk s H scope (compEnvC scope cl C X.env) fp) tg ix tgt)
    (ht : ∀ (s : Shared) (H : Hp) (C : Addr) (cl : List (Str × Addr)) (fp : List Addr), PTs (X.blk s H scope (compEnvC scope cl C X.env) fp) ifs (tT (gx X T) W0 tt))
    (he : ∀ (s : Shared) (H : Hp) (C : Addr) (cl : List (Str × Addr)) (fp : List Addr), SE (gx X T) W0 (X.blk s H scope (compEnvC scope cl C X.env) fp) elt fe) (hs : ∀ x, foldedSetIterable iter X.env x = pure x := by intro _; rfl) :
    SO (gx X T) Wx X (.ListComp elt [⟨tg, iter, ifs, 0⟩] scope pos) (oLc fi tgt tt fe (own.map (·.2))) :=
  PE.imp (pe_lc hc hN hi ok hg ht he hs) fun σ H Q h => lc_in hix h
/-- y = [..], the list kept by this frame -/
theorem ss_setLc {i : Nat} {y : Str} {py : Pos} (hc : X.calm = true) (hN : X.N.Nodup) (hy : X.N[i]? = some y) (hyl : X.env.scope.names.lookup y = some .local)
    (hsw : swapsWith (.ListComp elt [⟨tg, iter, ifs, 0⟩] scope pos) (some (.Name y py)) spos.line X.env = pure true) (hi : SI (gx X T) Wx X tg iter fi) (ok : BlkOk X.N X.env.scope scope own) (hix : ∀ i ∈ ix, i ∈ own.map (·.2))
    (hg : ∀ (s : Shared) (H : Hp) (C : Addr) (cl : List (Str × Addr)) (fp : List Addr), SG (gx X T) (X.blk s H scope (compEnvC scope cl C X.env) fp) tg ix tgt)
    (ht : ∀ (s : Shared) (H : Hp) (C : Addr) (cl : List (Str × Addr)) (fp : List Addr), PTs (X.blk s H scope (compEnvC scope cl C X.env) fp) ifs (tT (gx X T) W0 tt))
    (he : ∀ (s : Shared) (H : Hp) (C : Addr) (cl : List (Str × Addr)) (fp : List Addr), SE (gx X T) W0 (X.blk s H scope (compEnvC scope cl C X.env) fp) elt fe) (hs : ∀ x, foldedSetIterable iter X.env x = pure x := by intro _; rfl) :
    SS (gx X T) Wx X (.Assign [.Name y py] (.ListComp elt [⟨tg, iter, ifs, 0⟩] scope pos) spos) (sOwn (oLc fi tgt tt fe (own.map (·.2))) i) :=
  PS.imp (ps_setLc hc hN hy hyl hsw hi ok hg ht he hs) fun Dn σ H h => by
    have z := own_in h
    exact lc_in hix z
end
end DL

set_option Elab.async false
set_option linter.all false
set_option maxRecDepth 100000
set_option maxHeartbeats 2000000
/-! a generator's number never goes: the generators only become more -/
namespace DL
open PySem L2
theorem gens_runs {M : Model} {Γ : Ctx} {p : Pos} {t : Sem Fin} {fs : List Frame} {s s' : Shared} {e : End} (h : Runs M Γ p t fs s e s') : s.gens.size ≤ s'.gens.size := by
  induction h <;> (try simp only [Shared.setGen, Array.size_push, Array.set!_eq_setIfInBounds, Array.size_setIfInBounds] at *) <;> omega
theorem gens_returns {M : Model} {Γ : Ctx} {p : Pos} {s s' : Shared} {r : Result} (h : Returns M Γ p s r s') : s.gens.size ≤ s'.gens.size := gens_runs h
theorem gens_wakes {M : Model} {Γ : Ctx} {p : Pos} {g : Nat} {r : Resume} {s s' : Shared} {res : GenResult} (h : Wakes M Γ p g r s res s') : s.gens.size ≤ s'.gens.size := by
  unfold Wakes at h
  have sg : ∀ (s : Shared) x, (s.setGen g x).gens.size = s.gens.size := fun s x => by simp [Shared.setGen]
  split at h
  · exact h.elim
  · split at h
    · obtain ⟨e₁, s₁, hr, _, _, rfl⟩ := h; have := gens_runs hr; rw [sg] at this ⊢; exact this
    · rw [h.2]; first | exact Nat.le_refl _ | (rw [sg]; exact Nat.le_refl _)
    · rw [h.2]; first | exact Nat.le_refl _ | (rw [sg]; exact Nat.le_refl _)
  · obtain ⟨e₁, s₁, hr, _, _, rfl⟩ := h; have := gens_runs hr; rw [sg] at this ⊢; exact this
  · rw [h.2]; first | exact Nat.le_refl _ | (rw [sg]; exact Nat.le_refl _)
  · rw [h.2]; first | exact Nat.le_refl _ | (rw [sg]; exact Nat.le_refl _)
theorem gens_wp {α : Type} (M : Model) (Γ : Ctx) (n : Nat) (t : Sem α) : ∀ (Q : α → Pos → Shared → Prop) (E : Value → Pos → Shared → Prop) (p : Pos) (s : Shared), n ≤ s.gens.size → PySem.Sem.wp M Γ t Q E p s →
    PySem.Sem.wp M Γ t (fun a p' s' => n ≤ s'.gens.size ∧ Q a p' s') (fun e p' s' => n ≤ s'.gens.size ∧ E e p' s') p s := by
  induction t with
  | pure a => intro Q E p s hn h; exact ⟨hn, h⟩
  | raise e => intro Q E p s hn h; exact ⟨hn, h⟩
  | unsupported _ => intro Q E p s _ h; exact h
  | finish _ => intro Q E p s _ h; exact h
  | rule _ k ih => intro Q E p s hn h; exact ih () Q E p s hn h
  | «at» p' k ih => intro Q E p s hn h; exact ih () Q E p' s hn h
  | load a _ k ih => intro Q E p s hn h; obtain ⟨o, ho, h⟩ := h; exact ⟨o, ho, ih o Q E p s hn h⟩
  | update a _ f k ih => intro Q E p s hn h; exact ⟨h.1, ih () Q E p _ hn h.2⟩
  | loadIfAlive a k ih => intro Q E p s hn h; exact ih _ Q E p s hn h
  | point _ k ih => intro Q E p s hn h; exact ih () Q E p s hn h
  | register _ _ => intro Q E p s _ h; exact h
  | alloc o k ih => intro Q E p s hn h; exact ih _ Q E p _ hn h
  | fresh k ih => intro Q E p s hn h; exact ih _ Q E p _ hn h
  | ask k ih => intro Q E p s hn h; exact ih _ Q E p s hn h
  | choose src m k ih => intro Q E p s hn h; exact ⟨h.1, ih _ Q E p _ hn h.2⟩
  | os q _ k ih => intro Q E p s hn h; exact ih _ Q E p _ hn h
  | call c hd _ _ k ih => intro Q E p s hn h; obtain ⟨r, s', hr, h⟩ := h; exact ⟨r, s', hr, ih r Q E p s' (Nat.le_trans hn (gens_returns hr)) h⟩
  | handled own k ih => intro Q E p s hn h; exact ih _ Q E p s hn h
  | genState g k ih => intro Q E p s hn h; obtain ⟨st, hs, h⟩ := h; exact ⟨st, hs, ih _ Q E p s hn h⟩
  | newGen c k ih => intro Q E p s hn h; exact ih _ Q E p _ (by show n ≤ (s.gens.push _).size; rw [Array.size_push]; omega) h
  | resume g r _ k ih => intro Q E p s hn h; obtain ⟨res, s', hw, h⟩ := h; exact ⟨res, s', hw, ih res Q E p s' (Nat.le_trans hn (gens_wakes hw)) h⟩
  | yield _ _ _ _ => intro Q E p s _ h; exact h
  | stack k ih => intro Q E p s hn h; exact ih _ Q E p s hn h
  | fork _ _ => intro Q E p s _ h; exact h
  | thread k ih => intro Q E p s hn h; exact ih _ Q E p s hn h
  | await _ _ _ _ _ => intro Q E p s _ h; exact h
theorem with_gens {α : Type} {M : Model} {A : Around} {s : Shared} {t : Sem α} {Q : α → Shared → Prop} {E : Value → Shared → Prop} {n : Nat} (hn : n ≤ s.gens.size)
    (h : wpAny M A t (fun a s' => n ≤ s'.gens.size → Q a s') (fun e s' => n ≤ s'.gens.size → E e s') s) : wpAny M A t Q E s :=
  wpAny_mono (Q := fun a s' => n ≤ s'.gens.size ∧ (n ≤ s'.gens.size → Q a s')) (E := fun e s' => n ≤ s'.gens.size ∧ (n ≤ s'.gens.size → E e s')) (fun Γ p hΓ => gens_wp M Γ n t _ _ p s hn (h Γ p hΓ)) (fun _ _ x => x.2 x.1) (fun _ _ x => x.2 x.1)
end DL

set_option Elab.async false
set_option linter.all false
set_option maxRecDepth 100000
set_option maxHeartbeats 2000000
/-! all, any of a generator expression: its frame in the hand layer -/
namespace DG
open PySem PySem.Spec PyProof.Rows L2 DL
open GxR (TabB TabG inv_tab sh_eta)

/-- the context of the generator expression's frame -/
abbrev gcx (X : Cx) (s : Shared) (H : Hp) (scope : Scope) (cenv : Env) (fp : List Addr) (A : Around) : Cx :=
  { X with s_0 := s, H_0 := H, A := A, env := cenv, outer := X.stack, stack := cenv :: X.stack, ex := fp, fn := fun _ => false, calm := true, pn := [], xe := fun _ _ => False }
abbrev gCode (elt tg iter : Expr) (ifs : List Expr) (scope : Scope) (pos : Pos) (it : Addr) (cenv : Env) : Code := .compLoop (.GeneratorExp elt [⟨tg, iter, ifs, 0⟩] scope pos) 0 (.ref it) .none cenv
abbrev gA (A : Around) (elt tg iter : Expr) (ifs : List Expr) (scope : Scope) (pos : Pos) (it : Addr) (cenv : Env) : Around := A.in1.in1.over (gCode elt tg iter ifs scope pos it cenv) []
theorem bare_set {g : Array GenState} {i : Nat} {x : GenState} (h : AllBare g) (hx : x.bare = true) : AllBare (g.setIfInBounds i x) := fun y hy => by
  rcases Array.mem_or_eq_of_mem_setIfInBounds hy with z | z
  · exact h y z
  · rw [z]; exact hx
section
variable {X : Cx} {pins : List (Addr × Obj)} {σ : L2.St} {H : Hp} {s : Shared}
theorem inv_gens {g' : Array GenState} (I : Inv X pins σ H s) (h : AllBare g') : Inv X pins σ H { s with gens := g' } :=
  ⟨I.ok, I.os, h, I.base, I.loc, I.cell, I.free, I.freeC, I.pin, I.hok, I.len⟩
/-- what a turn is to reach: c, the truth that goes on -/
def Turns (J : It) (g : TG) (tt : TT) (te : TE) (vs : List Nat) (σ : L2.St) (c : Bool) (Q : Bool → Hp → Prop) (W : Nat → Nat → Hp → Prop) : Prop := ∀ i m H, W i m H →
  (J.stop i H ∧ Q c H) ∨ (J.go i H ∧ ∃ Nx : Hp → Prop, (∀ H', Nx H' → ∃ m', m' < m ∧ W (i + 1) m' H') ∧ ∀ x H', J.yld i H x H' → g x (wipe σ vs) H' fun σ2 H2 => wipe σ2 vs = wipe σ vs ∧ tt σ2 H2 fun b H3 =>
    if b = true then te σ2 H3 fun y H4 => ∃ k : Bool, y = .bl k ∧ if k = c then Nx H4 else Q (!c) H4 else Nx H3)
/-- at each yield -/
def proto (Xg : Cx) (a : Addr) (go : Obj) (σ : L2.St) (g : Nat) (c : Bool) (Q : Bool → Hp → Prop) : Protocol := fun _ _ v s kap =>
  g < s.gens.size ∧ ∃ (k : Bool) (H : Hp), v = .bool k ∧ Inv Xg [(a, go)] σ H s ∧ (k = c → ∀ gs : GenState, gs.bare = true → kap (.send .none) ((s.setGen g gs).setGen g .running)) ∧ (k ≠ c → Q (!c) H)
def fin (Xg : Cx) (a : Addr) (go : Obj) (σ : L2.St) (g : Nat) (c : Bool) (Q : Bool → Hp → Prop) : Nat → Shared → Shared → Prop := fun _ _ s => g < s.gens.size ∧ ∃ H, Inv Xg [(a, go)] σ H s ∧ Q c H
variable {elt tg iter : Expr} {ifs : List Expr} {scope : Scope} {pos : Pos} {it a : Addr} {go : Obj} {cenv : Env} {fp : List Addr} {J : It} {tn : Nat → Heap → Prop} {g : TG} {tt : TT} {te : TE} {vs : List Nat} {c : Bool} {Q : Bool → Hp → Prop} {W : Nat → Nat → Hp → Prop} {gn : Nat} {s2 : Shared} {H2 : Hp}
theorem seg_loop (hh : X.A.handled = none) (hco : cenv.scope.isCoroutine = false)
    (T : Turn X.prog X.w X.K tg J fp it tn)
    (hg : PG (gcx X s2 H2 scope cenv fp (gA X.A elt tg iter ifs scope pos it cenv)) tg g) (ht : PTs (gcx X s2 H2 scope cenv fp (gA X.A elt tg iter ifs scope pos it cenv)) ifs tt)
    (he : PE (gcx X s2 H2 scope cenv fp (gA X.A elt tg iter ifs scope pos it cenv)) elt te) (turn : Turns J g tt te vs σ c Q W) :
    ∀ (m n i : Nat) (H : Hp) (s₀ s : Shared), m ≤ n → Inv (gcx X s2 H2 scope cenv fp (gA X.A elt tg iter ifs scope pos it cenv)) [(a, go)] (wipe σ vs) H s → tn i s.heap → (∀ b ∈ fp, H b = none ∧ a ≠ b) → gn < s.gens.size → W i m H →
      Seg (model X.prog X.w) X.A.in1.in1 (fun n s₀ r s₁ => r = .ok .next ∧ fin (gcx X s2 H2 scope cenv fp (gA X.A elt tg iter ifs scope pos it cenv)) a go (wipe σ vs) gn c Q n s₀ s₁)
        (proto (gcx X s2 H2 scope cenv fp (gA X.A elt tg iter ifs scope pos it cenv)) a go (wipe σ vs) gn c Q) (n + 1) s₀ (gCode elt tg iter ifs scope pos it cenv) ((model X.prog X.w).den (gCode elt tg iter ifs scope pos it cenv)) [] s := by
  have stat : ∀ {σ' : L2.St} {H' : Hp} {s' : Shared}, Inv (gcx X s2 H2 scope cenv fp (gA X.A elt tg iter ifs scope pos it cenv)) [(a, go)] σ' H' s' → (∀ b ∈ fp, H' b = none ∧ a ≠ b) → ∀ b ∈ fp, FpOk (gcx X s2 H2 scope cenv fp (gA X.A elt tg iter ifs scope pos it cenv)) [(a, go)] H' b := fun {σ' H' s'} I' hn b hb =>
    ⟨(hn b hb).1, (I'.ok.exf b hb).1, I'.ok.exfs b hb, .inl hb, fun x c e => (I'.ok.exf b hb).2 x c e, fun p hp => by
      have e : p = (a, go) := by simpa using hp
      subst e
      exact (hn b hb).2⟩
  intro m
  induction m using Nat.strongRecOn with
  | _ m ih =>
  intro n i H s₀ s hmn I st hfp hgn w0
  show Seg _ X.A.in1.in1 _ _ _ s₀ _ ((compTurn (.GeneratorExp elt [⟨tg, iter, ifs, 0⟩] scope pos) 0 (.ref it) .none cenv).onRaise (leaving cenv)) [] s
  rw [compTurn_gen, Sem.onRaise_eq_wrap]
  refine seg_bind_wrap (wpAny_standAt ?_)
  rcases turn i m H w0 with ⟨stop, qq⟩ | ⟨goes, Nx, hNx, step⟩
  · refine seg_bind_wrap (with_gens (n := gn + 1) hgn (wpAny_mono (T.done (gcx X s2 H2 scope cenv fp (gA X.A elt tg iter ifs scope pos it cenv)) rfl rfl rfl rfl i [(a, go)] s _ H (fun _ _ => False) I (stat I hfp) st stop) (fun r s3 h hlt => ?_) (fun _ _ z _ => z.elim)))
    obtain ⟨hr, I3⟩ := h
    subst hr
    exact seg_end (.ok .next) ⟨rfl, hlt, H, I3, qq⟩
  · refine seg_bind_wrap (with_gens (n := gn + 1) hgn (wpAny_mono (T.item (gcx X s2 H2 scope cenv fp (gA X.A elt tg iter ifs scope pos it cenv)) rfl rfl rfl rfl i [(a, go)] s _ H (fun _ _ => False) I (stat I hfp) st goes) (fun r s3 h hl3 => ?_) (fun _ _ z _ => z.elim)))
    obtain ⟨u, hr, h3⟩ := h
    subst hr
    refine seg_bind_wrap (with_gens (n := gn + 1) hl3 (wpAny_mono h3 (fun _ s4 h hl4 => ?_) (fun _ _ z _ => z.elim)))
    obtain ⟨x, H4, I4, r4, y4, st4, n4⟩ := h
    have hn4 : ∀ b ∈ fp, H4 b = none ∧ a ≠ b := fun b hb => ⟨n4 b hb, (hfp b hb).2⟩
    have I4' := I4.pinned (stat I4 hn4) (T.obj _ _ st4)
    refine seg_bind_wrap (with_gens (n := gn + 1) hl4 (wpAny_mono (hg.run _ s4 _ H4 x u _ I4' r4 (step x H4 y4)) (fun _ s5 h hl5 => ?_) (fun _ _ z _ => z.elim)))
    obtain ⟨σ5, H5, I5, hw5, q5⟩ := h
    refine seg_bind_wrap (with_gens (n := gn + 1) hl5 (wpAny_mono (ht.run _ s5 σ5 H5 _ I5 q5) (fun b s6 h hl6 => ?_) (fun _ _ z _ => z.elim)))
    obtain ⟨H6, I6, q6⟩ := h
    have fine : ∀ {s' : Shared} {H' : Hp}, Inv (gcx X s2 H2 scope cenv fp (gA X.A elt tg iter ifs scope pos it cenv)) ([(a, go)] ++ pinsAt fp s4.heap) σ5 H' s' →
        Inv (gcx X s2 H2 scope cenv fp (gA X.A elt tg iter ifs scope pos it cenv)) [(a, go)] (wipe σ vs) H' s' ∧ tn (i + 1) s'.heap ∧ ∀ b ∈ fp, H' b = none ∧ a ≠ b := fun {s' H'} I' => by
      have pin' : ∀ b ∈ fp, ∀ o, s4.heap.get? b = some o → s'.heap.get? b = some o ∧ H' b = none := fun b hb o e =>
        let z := I'.pin (b, o) (List.mem_append_right _ (List.mem_append_right _ (mem_pinsAt hb e)))
        ⟨z.1, z.2.1⟩
      have hl : (wipe σ vs).length = σ5.length := by rw [← hw5, wipe_length]
      refine ⟨(I'.unpinned (pins := [(a, go)])).weak hl fun j v e => ?_, T.keep _ _ _ st4 fun b hb o e => (pin' b hb o e).1, fun b hb => ?_⟩
      · rw [← hw5] at e
        exact (wipe_some e).1
      · obtain ⟨o, e, _⟩ := T.obj _ _ st4 b hb
        exact ⟨(pin' b hb o e).2, (hfp b hb).2⟩
    cases b with
    | false =>
      simp only [Bool.false_eq_true, if_false] at q6 ⊢
      obtain ⟨m', hm, w'⟩ := hNx H6 q6
      obtain ⟨z1, z2, z3⟩ := fine I6
      exact seg_again rfl (ih m' hm n (i + 1) H6 s₀ s6 (by omega) z1 z2 z3 hl6 w')
    | true =>
      simp only [if_true] at q6 ⊢
      have hy : ∀ v, yieldOut cenv v = yieldValue v := fun v => by simp only [yieldOut, hco, Bool.false_eq_true, if_false]
      simp only [hy]
      rw [Sem.bind_eq_wrap', Sem.bind_eq_wrap', Sem.wrap_wrap, Sem.wrap_wrap]
      refine seg_wrap (with_gens (n := gn + 1) hl6 (wpAny_mono (he.run _ s6 σ5 H6 _ I6 q6) (fun yv s7 h hl7 => ?_) (fun _ _ z _ => z.elim)))
      obtain ⟨y, H7, I7, r7, k, rfl, q7⟩ := h
      obtain rfl : yv = Value.bool k := r7
      obtain ⟨z1, z2, z3⟩ := fine I7
      refine seg_at (seg_yield rfl rfl rfl ⟨hl7, k, H7, rfl, z1, fun hk gs hb => ?_, fun hk => ?_⟩)
      · rw [if_pos hk] at q7
        obtain ⟨m', hm, w'⟩ := hNx H7 q7
        obtain ⟨n', rfl⟩ : ∃ n', n = n' + 1 := ⟨n - 1, by omega⟩
        refine seg_again rfl (ih m' hm n' (i + 1) H7 _ _ (by omega) ?_ z2 z3 ?_ w')
        · exact inv_gens (inv_gens z1 (bare_set z1.bare hb)) (bare_set (bare_set z1.bare hb) rfl)
        · show gn < ((s7.gens.setIfInBounds gn gs).setIfInBounds gn .running).size
          rw [Array.size_setIfInBounds, Array.size_setIfInBounds]
          exact hl7
      · rw [if_neg hk] at q7
        exact q7
abbrev sCode (elt tg iter : Expr) (ifs : List Expr) (scope : Scope) (pos : Pos) (it : Addr) (cenv : Env) : Code := .compStart (.GeneratorExp elt [⟨tg, iter, ifs, 0⟩] scope pos) 0 (.ref it) .none cenv
theorem seg_start (hh : X.A.handled = none) (hco : cenv.scope.isCoroutine = false)
    (T : Turn X.prog X.w X.K tg J fp it tn)
    (hg : PG (gcx X s2 H2 scope cenv fp (gA X.A elt tg iter ifs scope pos it cenv)) tg g) (ht : PTs (gcx X s2 H2 scope cenv fp (gA X.A elt tg iter ifs scope pos it cenv)) ifs tt)
    (he : PE (gcx X s2 H2 scope cenv fp (gA X.A elt tg iter ifs scope pos it cenv)) elt te) (turn : Turns J g tt te vs σ c Q W)
    {m n : Nat} {H : Hp} {s₀ s : Shared} (hmn : m ≤ n) (I : Inv (gcx X s2 H2 scope cenv fp (gA X.A elt tg iter ifs scope pos it cenv)) [(a, go)] (wipe σ vs) H s) (st : tn 0 s.heap) (hfp : ∀ b ∈ fp, H b = none ∧ a ≠ b) (hgn : gn < s.gens.size) (w0 : W 0 m H) :
      Seg (model X.prog X.w) X.A.in1.in1 (fun n s₀ r s₁ => r = .ok .next ∧ fin (gcx X s2 H2 scope cenv fp (gA X.A elt tg iter ifs scope pos it cenv)) a go (wipe σ vs) gn c Q n s₀ s₁)
        (proto (gcx X s2 H2 scope cenv fp (gA X.A elt tg iter ifs scope pos it cenv)) a go (wipe σ vs) gn c Q) (n + 1) s₀ (sCode elt tg iter ifs scope pos it cenv) ((model X.prog X.w).den (sCode elt tg iter ifs scope pos it cenv)) [] s := by
  have loop := seg_loop (scope := scope) hh hco T hg ht he turn m n 0 H s₀ s hmn I st hfp hgn w0
  show Seg _ X.A.in1.in1 _ _ _ s₀ _ ((compStart (.GeneratorExp elt [⟨tg, iter, ifs, 0⟩] scope pos) 0 (.ref it) .none cenv).onRaise (leaving cenv)) [] s
  unfold compStart
  rw [Sem.onRaise_eq_wrap]
  show Seg _ X.A.in1.in1 _ _ _ s₀ _ ((ask >>= _).wrap _ _ _ _) [] s
  refine seg_bind_wrap (wpAny_askSetting ?_)
  split
  · exact seg_again rfl loop
  · first
      | exact seg_bind_wrap (wpAny_rule (seg_bind_wrap (wpAny_standAt (seg_bind_wrap (T.self _ 0 s _ _ st (seg_again rfl loop))))))
      | (refine seg_bind_wrap (wpAny_rule ?_); show Seg _ X.A.in1.in1 _ _ _ s₀ _ ((standAt iter.pos >>= _).wrap _ _ _ _) [] s; exact seg_bind_wrap (wpAny_standAt (seg_bind_wrap (T.self _ 0 s _ _ st (seg_again rfl loop)))))
end
end DG

set_option Elab.async false
set_option linter.all false
set_option maxRecDepth 100000
set_option maxHeartbeats 2000000
namespace DG
open PySem PySem.Spec PyProof.Rows L2 DL
open GxR (TabB TabG Tabbed inv_tab sh_eta)

/-- the number of a generator object -/
def GenObj (go : Obj) (g : Nat) : Prop := ∃ nm qn, go.cls = .type "generator" ∧ go.data = .fields #[.int g 0, nm, qn] ∧ go.slots = #[]
theorem GenObj.is {go : Obj} {g : Nat} (h : GenObj go g) {hp : Heap} {a : Addr} (e : hp.get? a = some go) : hp.IsGen a g := let ⟨nm, qn, h1, h2, h3⟩ := h; ⟨go, nm, qn, e, h1, h2, h3⟩
section
variable {X : Cx} {σ : L2.St} {elt tg iter : Expr} {ifs : List Expr} {scope : Scope} {pos : Pos} {it a : Addr} {go : Obj} {cenv : Env} {fp : List Addr} {vs : List Nat} {Q : Bool → Hp → Prop} {gn : Nat} {s2 : Shared} {H2 : Hp} {RR : Result → Shared → Prop}
/-- the generator sleeps in s -/
def Sleeps (X Xg : Cx) (a : Addr) (go : Obj) (σ : L2.St) (gn : Nat) (c : Bool) (Q : Bool → Hp → Prop) (n : Nat) (s : Shared) : Prop :=
  ∃ gs H, s.gens[gn]? = some gs ∧ Inv Xg [(a, go)] σ H s ∧ gs.Goes (model X.prog X.w) X.A.in1.in1 (fun n s₀ r s₁ => r = .ok .next ∧ fin Xg a go σ gn c Q n s₀ s₁) (proto Xg a go σ gn c Q) n (.send .none) (s.setGen gn .running)
theorem set_same {s : Shared} {x : GenState} (h : gn < s.gens.size) : (s.setGen gn x).gens[gn]? = some x := by
  simp [Shared.setGen, h]
theorem next_of {Xg : Cx} {c : Bool} {n : Nat} {s : Shared} {QQ : Option Value → Shared → Prop} {E : Value → Shared → Prop} (hh : X.A.handled = none) (hroom : X.A.depth < recursionLimit) (hgo : GenObj go gn) (h : Sleeps X Xg a go σ gn c Q n s)
    (hy : ∀ (k : Bool) (H : Hp) (s' : Shared), Inv Xg [(a, go)] σ H s' → (k = c → ∃ m, n = m + 1 ∧ Sleeps X Xg a go σ gn c Q m s') → (k ≠ c → Q (!c) H) → QQ (some (.bool k)) s')
    (hn : ∀ (H : Hp) (s' : Shared), Inv Xg [(a, go)] σ H s' → Q c H → QQ none s') :
    wpAny (model X.prog X.w) X.A.in1 (pyNext (.ref a)) QQ E s := by
  obtain ⟨gs, H, hgs, I, hg⟩ := h
  have ha := (I.pin (a, go) (List.mem_append_right _ List.mem_cons_self)).1
  refine wpAny_pyNext_genexpQ (A := X.A.in1) hh I.nolimit hroom (hgo.is ha) hgs hg (fun v s₁ gs' hb hv => ?_) (fun s₁ hp h' hk => ?_)
  · obtain ⟨hlt, k, H, rfl, I1, cont, stop⟩ := hv
    have I2 : Inv Xg [(a, go)] σ H (s₁.setGen gn gs') := inv_gens I1 (bare_set I1.bare hb)
    refine hy k H _ I2 (fun hk => ?_) stop
    have q := cont hk gs' hb
    cases n with
    | zero => exact q.elim
    | succ m => exact ⟨m, rfl, gs', H, set_same hlt, I2, q⟩
  · obtain ⟨hlt, H, I1, q⟩ := hp
    exact hn H _ ((inv_gens I1 (bare_set I1.bare rfl)).kept (t' := s₁.toks) hk) q
theorem all_loop {Xg : Cx} (hh : X.A.handled = none) (hroom : X.A.depth < recursionLimit) (hgo : GenObj go gn) : ∀ (n : Nat) (s : Shared), Sleeps X Xg a go σ gn true Q n s →
    (∀ b H s', Inv Xg [(a, go)] σ H s' → Q b H → RR (.ok (.ret (.bool b))) s') → codeAny (model X.prog X.w) X.A (.builtin "all.loop" ⟨[.ref a], []⟩) RR s := by
  intro n
  induction n with
  | zero =>
    intro s h hR
    refine codeAny_builtin PySem.F.entry_all_loop ?_
    rw [Around.under_plainId PySem.F.plain_all_loop _]
    show wpAny _ X.A.in1 (pyNext (.ref a) >>= _) _ _ s
    refine wpAny_bind (next_of hh hroom hgo h (fun k H s' I cont stop => ?_) fun H s' I q => ?_)
    · refine wpAny_bind (wpAny_holding (wpAny_truthy_bool ?_))
      refine wpAny_bind (wpAny_letGo ?_)
      cases k with
      | true => obtain ⟨m, e, _⟩ := cont rfl; omega
      | false =>
        simp only [Bool.false_eq_true, if_false]
        exact wpAny_bind (wpAny_rule (wpAny_pure (hR false H s' I (stop (by decide)))))
    · exact wpAny_bind (wpAny_rule (wpAny_pure (hR true H s' I q)))
  | succ n ih =>
    intro s h hR
    refine codeAny_builtin PySem.F.entry_all_loop ?_
    rw [Around.under_plainId PySem.F.plain_all_loop _]
    show wpAny _ X.A.in1 (pyNext (.ref a) >>= _) _ _ s
    refine wpAny_bind (next_of hh hroom hgo h (fun k H s' I cont stop => ?_) fun H s' I q => ?_)
    · refine wpAny_bind (wpAny_holding (wpAny_truthy_bool ?_))
      refine wpAny_bind (wpAny_letGo ?_)
      cases k with
      | true =>
        obtain ⟨m, e, z⟩ := cont rfl
        obtain rfl : n = m := by omega
        simp only [if_true]
        exact wpAny_pure ⟨plainId_quiet PySem.F.plain_all_loop _, ih s' z hR⟩
      | false =>
        simp only [Bool.false_eq_true, if_false]
        exact wpAny_bind (wpAny_rule (wpAny_pure (hR false H s' I (stop (by decide)))))
    · exact wpAny_bind (wpAny_rule (wpAny_pure (hR true H s' I q)))
theorem any_loop {Xg : Cx} (hh : X.A.handled = none) (hroom : X.A.depth < recursionLimit) (hgo : GenObj go gn) : ∀ (n : Nat) (s : Shared), Sleeps X Xg a go σ gn false Q n s →
    (∀ b H s', Inv Xg [(a, go)] σ H s' → Q b H → RR (.ok (.ret (.bool b))) s') → codeAny (model X.prog X.w) X.A (.builtin "any.loop" ⟨[.ref a], []⟩) RR s := by
  intro n
  induction n with
  | zero =>
    intro s h hR
    refine codeAny_builtin PySem.F.entry_any_loop ?_
    rw [Around.under_plainId PySem.F.plain_any_loop _]
    show wpAny _ X.A.in1 (pyNext (.ref a) >>= _) _ _ s
    refine wpAny_bind (next_of hh hroom hgo h (fun k H s' I cont stop => ?_) fun H s' I q => ?_)
    · refine wpAny_bind (wpAny_holding (wpAny_truthy_bool ?_))
      refine wpAny_bind (wpAny_letGo ?_)
      cases k with
      | false => obtain ⟨m, e, _⟩ := cont rfl; omega
      | true =>
        simp only [if_true]
        exact wpAny_bind (wpAny_rule (wpAny_pure (hR true H s' I (stop (by decide)))))
    · exact wpAny_bind (wpAny_rule (wpAny_pure (hR false H s' I q)))
  | succ n ih =>
    intro s h hR
    refine codeAny_builtin PySem.F.entry_any_loop ?_
    rw [Around.under_plainId PySem.F.plain_any_loop _]
    show wpAny _ X.A.in1 (pyNext (.ref a) >>= _) _ _ s
    refine wpAny_bind (next_of hh hroom hgo h (fun k H s' I cont stop => ?_) fun H s' I q => ?_)
    · refine wpAny_bind (wpAny_holding (wpAny_truthy_bool ?_))
      refine wpAny_bind (wpAny_letGo ?_)
      cases k with
      | false =>
        obtain ⟨m, e, z⟩ := cont rfl
        obtain rfl : n = m := by omega
        simp only [Bool.false_eq_true, if_false]
        exact wpAny_pure ⟨plainId_quiet PySem.F.plain_any_loop _, ih s' z hR⟩
      | true =>
        simp only [if_true]
        exact wpAny_bind (wpAny_rule (wpAny_pure (hR true H s' I (stop (by decide)))))
    · exact wpAny_bind (wpAny_rule (wpAny_pure (hR false H s' I q)))
end

/-- the scope of the generator expression: «.0» and its own names are local, no cells are made -/
structure GScope (N : List Str) (sc scope : Scope) (own : List (Str × Nat)) : Prop where
  blk : BlkOk N sc scope own
  co : scope.isCoroutine = false
  cell : ∀ y ∈ scope.names, y.2 ≠ .cell
  dot : scope.names.lookup (".0" : Str) = some NameKind.local
section
variable {X : Cx} {pins : List (Addr × Obj)} {σ : L2.St} {H : Hp} {s : Shared}
theorem gen_inv {scope : Scope} {own : List (Str × Nat)} {fp : List Addr} {it C a : Addr} {code : Value} {A' : Around} {go : Obj} {s2 s5 : Shared} {H1 H5 : Hp} {P : Addr} {ps more : Array Value} (S : GScope X.N X.env.scope scope own) (hN : X.N.Nodup)
    (hA : A'.handled = none) (hAf : A'.frames = some (genEnv scope (cloFrom X.env.cells scope.names []) C code builtinsNs X.env :: X.stack))
    (I2 : Inv X pins σ H1 s2) (f2 : ∀ b ∈ fp, FpOk X pins H1 b ∧ b < s2.heap.objs.size) (I5 : Inv X pins σ H5 s5) (hC : s2.heap.objs.size ≤ C) (haC : a ≠ C) (haS : s2.heap.objs.size ≤ a) (ns : s5.heap.Ns C fun y => if y = ".0" then some (.ref it) else none) (ha : s5.heap.get? a = some go) (hgo : ∀ v, go.data ≠ .cell v) (ha5 : H5 a = none) (hC5 : H5 C = none)
    (hP : H1 P = some (.tbl ps)) (e5 : H5 = upd H1 P (.tbl (ps ++ more))) (keep : ∀ b o, b ≠ P → s2.heap.get? b = some o → s5.heap.get? b = some o) (hos : s5.os = s2.os) :
    Inv (gcx X s2 H1 scope (genEnv scope (cloFrom X.env.cells scope.names []) C code builtinsNs X.env) fp A') [(a, go)] (wipe σ (own.map (·.2))) H5 s5 := by
  have ok := S.blk
  have hfree : ∀ y ∈ scope.names, y.2 = .free → ∃ c, X.env.cells.lookup y.1 = some c := fun y hy e => by
    rcases ok.free y hy e with k | k
    · exact I2.ok.has _ (.inl k)
    · exact I2.ok.has _ (.inr k)
  generalize hcenv : genEnv scope (cloFrom X.env.cells scope.names []) C code builtinsNs X.env = cenv at hAf ⊢
  have hL : cenv.locals = C := by rw [← hcenv]; rfl
  have hcl : cenv.cells = cloFrom X.env.cells scope.names [] := by rw [← hcenv]; rfl
  have hsc : cenv.scope = scope := by rw [← hcenv]; rfl
  have cm : ∀ {y c}, (y, c) ∈ cloFrom X.env.cells scope.names [] → X.env.cells.lookup y = some c ∧ c < s2.heap.objs.size := fun {y c} hm => by
    rcases cloFrom_mem hm with hm | ⟨h1, rfl⟩
    · cases hm
    · obtain ⟨c, hc⟩ := hfree _ h1 rfl
      rw [hc]
      obtain ⟨w, z⟩ := I2.cell _ _ hc
      exact ⟨rfl, z.lt⟩
  have mem : ∀ {y c}, cenv.cells.lookup y = some c → X.env.cells.lookup y = some c ∧ c < s2.heap.objs.size := fun {y c} e => by
    rw [hcl] at e
    exact cm (PySem.mem_of_lookup e)
  have look : ∀ {y}, scope.names.lookup y = some .free → ∃ c, cenv.cells.lookup y = some c ∧ X.env.cells.lookup y = some c := fun {y} hl => by
    have hy : (y, NameKind.free) ∈ scope.names := PySem.mem_of_lookup hl
    obtain ⟨c', e'⟩ := mem_lookup (cloFrom_has (cells := X.env.cells) (acc := []) hy)
    rw [← hcl] at e'
    exact ⟨c', e', (mem e').1⟩
  have nP : ∀ b, H1 b = none → b ≠ P := fun b e z => by rw [z, hP] at e; cases e
  have okG : (gcx X s2 H1 scope cenv fp A').Ok := by
    refine ⟨I2.ok.mod, by show cenv.scope.kind = _; rw [hsc]; exact ok.kind, by show cenv.globals = _; rw [← hcenv]; exact I2.ok.glob, by show cenv.builtins = _; rw [← hcenv]; rfl, by show s2.heap.objs.size ≤ cenv.locals; rw [hL]; exact hC,
      fun y z c e1 e2 => I2.ok.inj y z c (mem e1).1 (mem e2).1, fun y hy => ?_, (fun y c z => by cases z), fun _ => hA, hAf, .inr ⟨rfl, (by show cenv.frame = some cenv.locals; rw [← hcenv]; rfl)⟩, fun b hb => ⟨?_, fun y c e z => ?_⟩, I2.bs, Nat.le_trans I2.ok.bsz I2.sz, fun b o e hb => ?_, fun b hb z => ?_, I2.stack, I2.stkFree⟩
    · show ∃ c, cenv.cells.lookup y = some c
      have hk : cenv.kindOf y = scope.names.lookup y := by unfold Env.kindOf; rw [hsc]
      rcases hy with hy | hy
      · have hy : cenv.kindOf y = some .cell := hy
        rw [hk] at hy
        exact absurd rfl (S.cell _ (PySem.mem_of_lookup hy))
      · have hy : cenv.kindOf y = some .free := hy
        rw [hk] at hy
        obtain ⟨c, e, _⟩ := look hy
        exact ⟨c, e⟩
    · show b ≠ cenv.locals
      rw [hL]; exact Nat.ne_of_lt (Nat.lt_of_lt_of_le (f2 b hb).2 hC)
    · exact (f2 b hb).1.2.2.2.2.1 y c (mem e).1 z
    · rcases (f2 b hb).1.2.2.2.1 with z | z
      · exact I2.ok.noex b o e z
      · exact absurd (Nat.lt_of_lt_of_le (Heap.lt_size e) (Nat.le_trans I2.ok.bsz z)) (Nat.lt_irrefl _)
    · rcases List.mem_cons.mp (I2.stkSub b z) with z | z
      · exact (f2 b hb).1.2.1 z
      · exact (f2 b hb).1.2.2.1 z
  have un : Un (frs X.stack) fp H1 H5 s2.heap s5.heap := by
    subst e5
    refine ⟨fun b o e n _ _ => keep b o (nP b n) e, fun b o e n _ _ => ⟨o.slots, keep b o (nP b n) e⟩, fun b o e n _ => by rw [upd_ne (nP b n)]; exact n, fun b o e _ => ?_, fun b xs e => ?_, fun b o u e => ?_, fun b qs e => ?_⟩
    · by_cases hb : b = P
      · subst hb
        exact ⟨_, I5.hok b _ upd_same⟩
      · exact ⟨o, keep b o hb e⟩
    · rw [upd_ne fun z => by rw [z, hP] at e; cases e]; exact e
    · rw [upd_ne fun z => by rw [z, hP] at e; cases e]; exact e
    · by_cases hb : b = P
      · subst hb
        rw [hP] at e; cases e
        exact ⟨more, upd_same⟩
      · exact ⟨#[], by rw [upd_ne hb, e]; simp⟩
  refine ⟨okG, hos, I5.bare, un, ⟨_, by show s5.heap.Ns cenv.locals _; rw [hL]; exact ns, fun i y av e1 e2 e3 => ?_⟩, fun y c e => I5.cell y c (mem e).1, by show H5 cenv.locals = none; rw [hL]; exact hC5, fun y c e => I5.freeC y c (mem e).1, fun p hp => ?_, I5.hok, by rw [wipe_length]; exact I5.len⟩
  · obtain ⟨e2, hne⟩ := wipe_some e2
    have hk : cenv.kindOf y = scope.names.lookup y := by unfold Env.kindOf; rw [hsc]
    have no : ∀ k', scope.names.lookup y = some k' → ¬ (k' = .local ∨ k' = .cell) := fun k' e hh => by
      rcases ok.own _ (PySem.mem_of_lookup e) hh with e' | e'
      · obtain ⟨p, hp, hpy⟩ := List.mem_map.mp e'
        have e3 := ok.ix p hp
        have : p.1 = y := hpy
        rw [this] at e3
        exact hne (List.mem_map.mpr ⟨p, hp, nodup_ix hN e3 e1⟩)
      · exact e' (List.mem_of_getElem? e1)
    have e3 : Vis cenv.scope y := e3
    rw [hsc] at e3
    have hfr : scope.names.lookup y = some .free := by
      rcases e3 with e3 | e3 | e3
      · exact absurd (.inl rfl) (no _ e3)
      · exact absurd (.inr rfl) (no _ e3)
      · exact e3
    obtain ⟨m, hn, hl⟩ := I5.loc
    have hvis : Vis X.env.scope y := (ok.free _ (PySem.mem_of_lookup hfr) rfl).elim (fun k => .inr (.inl k)) (fun k => .inr (.inr k))
    obtain ⟨w, r, q⟩ := hl i y av e1 e2 hvis
    refine ⟨w, r, .inr ⟨.inr (by show cenv.kindOf y = _; rw [hk]; exact hfr), ?_⟩⟩
    obtain ⟨c, h1, h2⟩ := look hfr
    rcases q with ⟨k, _⟩ | ⟨_, c', e', z⟩
    · have k : X.env.scope.names.lookup y = some .local := k
      rcases ok.free _ (PySem.mem_of_lookup hfr) rfl with k' | k' <;> rw [show X.env.scope.names.lookup y = _ from k'] at k <;> cases k
    · rw [h2] at e'; cases e'
      exact ⟨c, h1, z⟩
  · have e : p = (a, go) := by simpa using hp
    subst e
    refine ⟨ha, ha5, by show a ≠ cenv.locals; rw [hL]; exact haC, fun z => ?_, hgo⟩
    have z : a ∈ frs X.stack := z
    rcases List.mem_cons.mp (I2.stkSub a z) with z | z
    · exact absurd (Nat.lt_of_lt_of_le I2.lt haS) (by rw [z]; exact Nat.lt_irrefl _)
    · exact I2.nofs haS z
end
end DG

set_option Elab.async false
set_option linter.all false
set_option maxRecDepth 100000
set_option maxHeartbeats 2000000
namespace DG
open PySem PySem.Spec PyProof.Rows L2 DL
open GxR (TabB TabG Tabbed inv_tab sh_eta)
section
variable {X : Cx} {pins : List (Addr × Obj)} {σ : L2.St} {H : Hp} {s : Shared} {elt tg iter : Expr} {ifs : List Expr} {scope : Scope} {own : List (Str × Nat)} {gpos pos p : Pos} {c P : Addr} {k : Nat} {wi : TI} {g : TG} {tt : TT} {te : TE}
theorem gA_hd {A : Around} {it : Addr} {cenv : Env} : (gA A elt tg iter ifs scope pos it cenv).handled = A.handled := by first | rfl | simp [Around.over, marksOver]
theorem gA_depth {A : Around} {it : Addr} {cenv : Env} : (gA A elt tg iter ifs scope pos it cenv).depth = A.depth + 1 := by
  first | rfl | simp [Around.over, Code.weight, Code.isCreation, Code.isGuard, Code.isCaller, Code.frames, Code.isFrame, frameCount]
theorem gA_units {A : Around} {it : Addr} {cenv : Env} : (gA A elt tg iter ifs scope pos it cenv).units = A.units + 5 := by
  first | rfl | simp [Around.over, Code.cUnits, Code.frames, Code.isFrame, unitsOf]
theorem gA_frames {A : Around} {it : Addr} {cenv : Env} {l : List Env} (h : A.frames = some l) : (gA A elt tg iter ifs scope pos it cenv).frames = some (cenv :: l) := by
  show pushEnvs (gCode elt tg iter ifs scope pos it cenv).envs (pushEnvs (envsOf (([] : List Frame).map Frame.where_)) A.frames) = _
  rw [h]
  rfl
theorem gA_room {A : Around} {it : Addr} {cenv : Env} (hr : Room (k + 1) A) : Room k (gA A elt tg iter ifs scope pos it cenv) :=
  ⟨by rw [gA_hd]; exact hr.hd, by rw [gA_depth]; have := hr.dp; omega, by rw [gA_units]; have := hr.un; omega⟩
theorem gen_make {Q' : Value → Shared → Prop} {R : It → Hp → Prop} (hr : Room (k + 1) X.A) (TB : TabB X.base X.mg c P) (hcode : X.env.code = .ref c) (S : GScope X.N X.env.scope scope own) (hN : X.N.Nodup) (hi : PI X tg iter wi)
    (hs : ∀ v, genFold iter X.env v = pure v) (I : Inv X pins σ H s) (h : wi σ H fun J H1 => TabG H1 P ∧ R J H1)
    (hQ : ∀ (J : It) (H1 H5 : Hp) (a it C : Addr) (go : Obj) (gn : Nat) (code : Value) (fp : List Addr) (tn : Nat → Heap → Prop) (s2 s5 : Shared), R J H1 → Tabbed P H1 H5 →
      Inv (gcx X s2 H1 scope (genEnv scope (cloFrom X.env.cells scope.names []) C code builtinsNs X.env) fp (gA X.A elt tg iter ifs scope gpos it (genEnv scope (cloFrom X.env.cells scope.names []) C code builtinsNs X.env))) [(a, go)] (wipe σ (own.map (·.2))) H5 s5 →
      GenObj go gn → Turn X.prog X.w X.K tg J fp it tn → tn 0 s5.heap → (∀ b ∈ fp, H5 b = none ∧ a ≠ b) → s5.gens[gn]? = some (.fresh (sCode elt tg iter ifs scope gpos it (genEnv scope (cloFrom X.env.cells scope.names []) C code builtinsNs X.env))) →
      (∀ H' s', Inv (gcx X s2 H1 scope (genEnv scope (cloFrom X.env.cells scope.names []) C code builtinsNs X.env) fp (gA X.A elt tg iter ifs scope gpos it (genEnv scope (cloFrom X.env.cells scope.names []) C code builtinsNs X.env))) [(a, go)] (wipe σ (own.map (·.2))) H' s' → Inv X pins σ H' s') →
      Q' (.ref a) s5) :
    wpAny (model X.prog X.w) X.A (eval (.GeneratorExp elt [⟨tg, iter, ifs, 0⟩] scope gpos) X.env) Q' X.xe s := by
  have hfree : ∀ y ∈ scope.names, y.2 = .free → ∃ c, X.env.cells.lookup y.1 = some c := fun y hy e => by
    rcases S.blk.free y hy e with k | k
    · exact I.ok.has _ (.inl k)
    · exact I.ok.has _ (.inr k)
  refine wpAny_GeneratorExp_make S.co (closure_ok hfree) S.cell S.dot S.blk.kind hr.depth ?_ hs
  refine thn (hi.run pins s σ H _ I h) fun xv s1 hx => thn hx fun itv s2 h2 => ?_
  obtain ⟨it, fp, tn, J, H1, e, I2, T, st2, f2, ⟨ps, hP, ht⟩, q⟩ := h2
  subst e
  refine ⟨I2.nolimit, ?_⟩
  have hPs : s2.heap.get? P = some { cls := .none, data := .fields ps } := I2.hok P _ hP
  have hPlt : P < s2.heap.objs.size := Heap.lt_size hPs
  have cd : PySem.W.CodeHd s2.heap c P := TB.code.keeps I2.bk
  have f2' : ∀ b ∈ fp, FpOk X pins H1 b ∧ b < s2.heap.objs.size := fun b hb => by
    obtain ⟨o, e, _⟩ := T.obj _ _ st2 b hb
    exact ⟨f2 b hb, Heap.lt_size e⟩
  have cont : ∀ (code : Value) (h3 : Heap) (tk : Nat) (ps' : Array Value), Heap.ExtBut P s2.heap h3 → s2.heap.objs.size ≤ h3.objs.size → h3.get? P = some { cls := .none, data := .fields ps' } → (∃ more, ps' = ps ++ more) → TriplesOk ps'.toList →
      wpAny (model X.prog X.w) X.A (builtinsFor X.env.globals X.env.builtins) (fun bi s₄ =>
        ∀ h', h'.Ns s₄.heap.objs.size (fun y => if y = ".0" then some (.ref it) else none) → Heap.SameBut s₄.heap.objs.size (s₄.heap.push { cls := .type "frame", data := .dict #[] }) h' →
          Q' (.ref h'.objs.size) { s₄ with
            gens := s₄.gens.push (.fresh (.compStart (.GeneratorExp elt [⟨tg, iter, ifs, 0⟩] scope gpos) 0 (.ref it) .none (genEnv scope (cloFrom X.env.cells scope.names []) s₄.heap.objs.size code bi X.env))),
            toks := s₄.toks + 1 + 1 + 1,
            heap := h'.push { cls := .type "generator", data := .fields #[.int s₄.gens.size 0, .str "<genexpr>" (s₄.toks + 1), .str (X.env.qual ++ "<genexpr>") (s₄.toks + 1 + 1)] } }) X.xe { s2 with heap := h3, toks := tk } := by
    intro code h3 tk ps' hx hsz hP3 hmore ht3
    obtain ⟨bm, ob, e1, e2, e3, e4, e5, e6, e7, e8⟩ := TB.bm
    have keep3 : ∀ b u, b ≠ P → s2.heap.get? b = some u → h3.get? b = some u := fun b u hb e => hx b u hb e
    refine wpAny_builtinsFor (m := X.mg) (by rw [I.ok.glob]; exact (I2.mod.glob.keeps I2.bk).extBut hx TB.gP) e1 e2 (keep3 _ _ e4 (I2.bk _ _ e5)) e6 e7 e8 fun h' hns hsb => ?_
    have hsz' : h'.objs.size = h3.objs.size + 1 := by
      have := hsb.1
      rw [Heap.size_push] at this
      exact this
    have keep' : ∀ b o, h3.get? b = some o → h'.get? b = some o := fun b o e => hsb.extBut b o (Nat.ne_of_lt (Heap.lt_size e)) (Heap.get?_push_of_some _ e)
    obtain ⟨more, em⟩ := hmore
    have keep5 : ∀ b o, b ≠ P → s2.heap.get? b = some o → (h'.push { cls := .type "generator", data := .fields #[.int s2.gens.size 0, .str "<genexpr>" (tk + 1), .str (X.env.qual ++ "<genexpr>") (tk + 1 + 1)] }).get? b = some o :=
      fun b o hb e => Heap.get?_push_of_some _ (keep' b o (keep3 b o hb e))
    have J5 := inv_tab (more := more) (h' := h'.push { cls := .type "generator", data := .fields #[.int s2.gens.size 0, .str "<genexpr>" (tk + 1), .str (X.env.qual ++ "<genexpr>") (tk + 1 + 1)] })
      (g' := s2.gens.push (.fresh (.compStart (.GeneratorExp elt [⟨tg, iter, ifs, 0⟩] scope gpos) 0 (.ref it) .none (genEnv scope (cloFrom X.env.cells scope.names []) h3.objs.size code builtinsNs X.env)))) (d' := s2.drawn) (t' := tk + 1 + 1 + 1) I2 hP keep5
      (by rw [← em]; exact Heap.get?_push_of_some _ (keep' P _ hP3)) (I2.bare.push rfl)
    have fresh5 : ∀ b, s2.heap.objs.size ≤ b → (upd H1 P (.tbl (ps ++ more))) b = none := fun b hb => by
      rw [upd_ne (Nat.ne_of_gt (Nat.lt_of_lt_of_le hPlt hb))]
      exact I2.hok.fresh hb
    have haS : s2.heap.objs.size ≤ h'.objs.size := by rw [hsz']; exact Nat.le_succ_of_le hsz
    have G := gen_inv (A' := gA X.A elt tg iter ifs scope gpos it (genEnv scope (cloFrom X.env.cells scope.names []) h3.objs.size code builtinsNs X.env)) (code := code) (it := it) (fp := fp) (C := h3.objs.size) (a := h'.objs.size)
      (go := { cls := .type "generator", data := .fields #[.int s2.gens.size 0, .str "<genexpr>" (tk + 1), .str (X.env.qual ++ "<genexpr>") (tk + 1 + 1)] }) S hN (by rw [gA_hd]; exact hr.hd) (gA_frames I.ok.frames)
      I2 f2' J5 hsz (by rw [hsz']; exact Nat.succ_ne_self _) haS (hns.push _) (Heap.get?_push_size _ rfl) (fun v z => by cases z) (fresh5 _ haS) (fresh5 _ hsz) hP rfl keep5 rfl
    refine hQ J H1 _ h'.objs.size it h3.objs.size _ s2.gens.size code fp tn s2 _ q ⟨⟨ps ++ more, upd_same, by rw [← em]; exact ht3⟩, fun b hb => upd_ne hb⟩ G ⟨_, _, rfl, rfl, rfl⟩ T ?_ ?_ ?_ fun H' s' I6 => ?_
    · refine T.keep _ _ _ st2 fun b hb o e => keep5 b o (fun z => ?_) e
      subst z
      have n := (f2' b hb).1.1
      rw [hP] at n; cases n
    · intro b hb
      obtain ⟨z1, z2⟩ := f2' b hb
      refine ⟨?_, fun z => ?_⟩
      · rw [upd_ne fun z => by subst z; have n := z1.1; rw [hP] at n; cases n]
        exact z1.1
      · rw [← z] at z2
        exact absurd (Nat.lt_of_lt_of_le z2 haS) (Nat.lt_irrefl _)
    · show (s2.gens.push _)[s2.gens.size]? = _
      exact Array.getElem?_push_size ..
    · exact I2.call' (ch := fp) I6.os I6.base I6.hok I6.bare fun b hb => ⟨(f2 b hb).2.2.2.1, (f2 b hb).2.1, (f2 b hb).2.2.2.2.1, (f2 b hb).2.2.2.2.2⟩
  cases hf : codeAmong gpos ps.toList with
  | none =>
    refine wpAny_genexprCodeX hcode (cd.code hPs ht) (cd.tab hPs) hf fun c' h' tk hx hge hlt hco' _ htab' _ => ?_
    obtain ⟨o1, vs, f1, tf, fl, tg, inF, tx, tt, op, _, _, _, _, _, _, _, _, _, htr, _⟩ := hco'
    exact cont _ h' tk _ hx (Nat.le_trans hge (Nat.le_of_lt hlt)) htab'.2 ⟨_, rfl⟩ htr
  | some cv =>
    refine wpAny_genexprCode_hit hcode (cd.code hPs ht) hf ?_
    exact cont cv s2.heap s2.toks ps (Heap.ExtBut.refl _ _) (Nat.le_refl _) hPs ⟨#[], by simp⟩ ht

/-- all (c = true), any (c = false) -/
def genR (P : Addr) (g : TG) (tt : TT) (te : TE) (vs : List Nat) (σ : L2.St) (c : Bool) (Q : VK) : It → Hp → Prop := fun J H1 => ∀ H2, Tabbed P H1 H2 → ∃ W : Nat → Nat → Hp → Prop, (∃ m : Nat, W 0 m H2) ∧ Turns J g tt te vs σ c (fun b H' => Q (.bl b) H') W
def tGen (P : Addr) (wi : TI) (g : TG) (tt : TT) (te : TE) (vs : List Nat) (c : Bool) : TE := fun σ H Q => wi σ H fun J H1 => TabG H1 P ∧ genR P g tt te vs σ c Q J H1
/-- what is asked of a piece in the generator expression's frame -/
abbrev InGen (X : Cx) (scope : Scope) (k : Nat) (Φ : Cx → Prop) : Prop := ∀ (s : Shared) (H : Hp) (C : Addr) (cl : List (Str × Addr)) (code : Value) (fp : List Addr) (A' : Around), Room k A' → Φ (gcx X s H scope (genEnv scope cl C code builtinsNs X.env) fp A')
theorem pe_allG (hr : Room (k + 1) X.A) (hg : Gl X "all") (hm : X.mg "all" = none) (hb : bootBuiltins "all" = some (.builtin "all")) (TB : TabB X.base X.mg c P) (hcode : X.env.code = .ref c) (S : GScope X.N X.env.scope scope own) (hN : X.N.Nodup) (hi : PI X tg iter wi)
    (hG : InGen X scope k fun Y => PG Y tg g) (hT : InGen X scope k fun Y => PTs Y ifs tt) (hE : InGen X scope k fun Y => PE Y elt te) (hs : ∀ v, genFold iter X.env v = pure v)
    (he : starEach [.GeneratorExp elt [⟨tg, iter, ifs, 0⟩] scope gpos] X.env = (false, eval (.GeneratorExp elt [⟨tg, iter, ifs, 0⟩] scope gpos) X.env) :: starEach [] X.env := by rfl) :
    PE X (.Call (.Name "all" p) [.GeneratorExp elt [⟨tg, iter, ifs, 0⟩] scope gpos] [] pos) (tGen P wi g tt te (own.map (·.2)) true) := by
  refine ⟨fun pins s σ H Q I h => ?_⟩
  refine wpAny_Call_Name_kw (ld_blt I hg hm hb ?_)
  refine PyProof.Rows.callWith_builtin1 ?_ he (by rfl)
  rw [he]
  show wpAny _ _ (spliced ((false, eval (.GeneratorExp elt [⟨tg, iter, ifs, 0⟩] scope gpos) X.env) :: backTo pos (starEach [] X.env))) _ _ s
  refine Calls.spliced_cons (gen_make (R := genR P g tt te (List.map (fun (x : Str × Nat) => x.2) own) σ true Q) hr TB hcode S hN hi hs I h
    fun J H1 H5 a it C go gn code fp tn s2 s5 hR htb G hgo T st hfp hgs back => ?_)
  obtain ⟨W, ⟨m, w0⟩, turn⟩ := hR H5 htb
  have isg := hgo.is (G.pin (a, go) (List.mem_append_right _ List.mem_cons_self)).1
  refine Calls.spliced_nil ?_
  refine call_function_tree PySem.F.kind_all PySem.F.plain_all PySem.F.entry_all (PySem.F.args_all1 _) ?_
  unfold Builtin.«all»
  refine wpAny_bind (m := oneArg "all" _) (wpAny_pure ?_)
  refine wpAny_bind (wpAny_pyIter_gen isg ?_)
  have rm := gA_room (elt := elt) (tg := tg) (iter := iter) (ifs := ifs) (scope := scope) (pos := gpos) (it := it) (cenv := genEnv scope (cloFrom X.env.cells scope.names []) C code builtinsNs X.env) hr
  have lt : gn < s5.gens.size := by
    rcases Nat.lt_or_ge gn s5.gens.size with z | z
    · exact z
    · rw [Array.getElem?_eq_none z] at hgs; cases hgs
  refine wpAny_pure ⟨plainId_quiet PySem.F.plain_all_loop _, all_loop hr.hd hr.depth hgo (m + 1) s5 ⟨_, H5, hgs, G, rfl, seg_start hr.hd S.co T (hG _ _ _ _ _ _ _ rm) (hT _ _ _ _ _ _ _ rm) (hE _ _ _ _ _ _ _ rm) turn (Nat.le_refl m) (inv_gens G (bare_set G.bare rfl)) st hfp ?_ w0⟩ fun b H' s' I6 q => ?_⟩
  · show gn < (s5.gens.setIfInBounds gn .running).size
    rw [Array.size_setIfInBounds]; exact lt
  · exact ⟨.bl b, H', back H' s' I6, rfl, q⟩
theorem pe_anyG (hr : Room (k + 1) X.A) (hg : Gl X "any") (hm : X.mg "any" = none) (TB : TabB X.base X.mg c P) (hcode : X.env.code = .ref c) (S : GScope X.N X.env.scope scope own) (hN : X.N.Nodup) (hi : PI X tg iter wi)
    (hG : InGen X scope k fun Y => PG Y tg g) (hT : InGen X scope k fun Y => PTs Y ifs tt) (hE : InGen X scope k fun Y => PE Y elt te) (hs : ∀ v, genFold iter X.env v = pure v)
    (he : starEach [.GeneratorExp elt [⟨tg, iter, ifs, 0⟩] scope gpos] X.env = (false, eval (.GeneratorExp elt [⟨tg, iter, ifs, 0⟩] scope gpos) X.env) :: starEach [] X.env := by rfl) :
    PE X (.Call (.Name "any" p) [.GeneratorExp elt [⟨tg, iter, ifs, 0⟩] scope gpos] [] pos) (tGen P wi g tt te (own.map (·.2)) false) := by
  refine ⟨fun pins s σ H Q I h => ?_⟩
  refine wpAny_Call_Name_kw (ld_blt I hg hm boot_any ?_)
  refine PyProof.Rows.callWith_builtin1 ?_ he (by rfl)
  rw [he]
  show wpAny _ _ (spliced ((false, eval (.GeneratorExp elt [⟨tg, iter, ifs, 0⟩] scope gpos) X.env) :: backTo pos (starEach [] X.env))) _ _ s
  refine Calls.spliced_cons (gen_make (R := genR P g tt te (List.map (fun (x : Str × Nat) => x.2) own) σ false Q) hr TB hcode S hN hi hs I h
    fun J H1 H5 a it C go gn code fp tn s2 s5 hR htb G hgo T st hfp hgs back => ?_)
  obtain ⟨W, ⟨m, w0⟩, turn⟩ := hR H5 htb
  have isg := hgo.is (G.pin (a, go) (List.mem_append_right _ List.mem_cons_self)).1
  refine Calls.spliced_nil ?_
  refine call_function_tree PySem.F.kind_any PySem.F.plain_any PySem.F.entry_any (PySem.F.args_any1 _) ?_
  unfold Builtin.«any»
  refine wpAny_bind (m := oneArg "any" _) (wpAny_pure ?_)
  refine wpAny_bind (wpAny_pyIter_gen isg ?_)
  have rm := gA_room (elt := elt) (tg := tg) (iter := iter) (ifs := ifs) (scope := scope) (pos := gpos) (it := it) (cenv := genEnv scope (cloFrom X.env.cells scope.names []) C code builtinsNs X.env) hr
  have lt : gn < s5.gens.size := by
    rcases Nat.lt_or_ge gn s5.gens.size with z | z
    · exact z
    · rw [Array.getElem?_eq_none z] at hgs; cases hgs
  refine wpAny_pure ⟨plainId_quiet PySem.F.plain_any_loop _, any_loop hr.hd hr.depth hgo (m + 1) s5 ⟨_, H5, hgs, G, rfl, seg_start hr.hd S.co T (hG _ _ _ _ _ _ _ rm) (hT _ _ _ _ _ _ _ rm) (hE _ _ _ _ _ _ _ rm) turn (Nat.le_refl m) (inv_gens G (bare_set G.bare rfl)) st hfp ?_ w0⟩ fun b H' s' I6 q => ?_⟩
  · show gn < (s5.gens.setIfInBounds gn .running).size
    rw [Array.size_setIfInBounds]; exact lt
  · exact ⟨.bl b, H', back H' s' I6, rfl, q⟩
end
end DG

set_option Elab.async false
set_option linter.all false
set_option maxRecDepth 100000
set_option maxHeartbeats 2000000
namespace DL
open PySem PySem.Spec PySem.SeqAt PySem.W L2 DG
open GxR (TabB TabG Tabbed)

/-! ### all, any of a generator expression -/
theorem HeapOk.tabbed {G : Gx} {F H H' : Hp} {ad : Option Addr} {w : Wd} {P : Addr} (h : HeapOk G F ad H w) (hP : G.T P) (t : Tabbed P H H') : HeapOk G F ad H' w ∧ Grow G ad F H F H' := by
  obtain ⟨⟨ps, e, ok⟩, same⟩ := t
  have nF : ∀ a, F a ≠ none → a ≠ P := fun a n z => h.noT a n (by rw [z]; exact hP)
  refine ⟨⟨fun a o q => ?_, h.noT, h.noD, fun a q => ?_, fun a q => ?_⟩, fun _ _ q => q, fun a o q n1 n2 => ?_, fun _ _ q => q⟩
  · rw [same a (nF a (by rw [q]; exact fun z => by cases z))]; exact h.sub a o q
  · by_cases z : a = P
    · subst z; exact ⟨ps, e, ok⟩
    · obtain ⟨p2, q1, q2⟩ := h.tab a q
      exact ⟨p2, by rw [same a z]; exact q1, q2⟩
  · obtain ⟨vs, q1, q2⟩ := h.dr a q
    refine ⟨vs, ?_, q2⟩
    rw [same a fun z => ?_]
    · exact q1
    · subst z
      obtain ⟨p2, q3, _⟩ := h.tab a hP
      rw [q1] at q3; cases q3
  · rw [same a fun z => n1 (by rw [z]; exact hP)]; exact q
/-- the turns: c, the truth that goes on -/
def gnL (c : Bool) (tgt : Tg) (tt : Ev → Wd → R Bool) (fe : Ef) (ρ : Ev) : List D → Wd → R D
  | [], w => .ok (.bool c) w
  | d :: ds, w => match tgt d ρ with
    | none => .bad
    | some ρ1 => (tt ρ1 w).bind fun b w1 => if b = true then (fe ρ1 w1).bind fun y w2 => match y with
      | .bool k => if k = c then gnL c tgt tt fe ρ ds w2 else .ok (.bool (!c)) w2
      | _ => .bad
      else gnL c tgt tt fe ρ ds w1
def eGen (c : Bool) (fi : Ev → Wd → R (List D)) (tgt : Tg) (tt : Ev → Wd → R Bool) (fe : Ef) (vs : List Nat) : Ef := fun ρ w => (fi ρ w).bind fun ds w1 => (gnL c tgt tt fe (wipeE ρ vs) ds w1).calm
section
variable {X : Cx} {T : Addr → Prop} {Wx : WX} {elt tg iter : Expr} {ifs : List Expr} {scope : Scope} {own : List (Str × Nat)} {gpos pos p : Pos} {fi : Ev → Wd → R (List D)} {tgt : Tg} {ix : List Nat} {tt : Ev → Wd → R Bool} {fe : Ef} {cc P : Addr} {k : Nat}
theorem gen_in {c : Bool} {vs : List Nat} {σ : St} {H : Hp} {Q : VK} (hP : T P) (hix : ∀ i ∈ ix, i ∈ vs) (h : tD (gx X T) Wx (eGen c fi tgt tt fe vs) σ H Q) : tGen P (tI (gx X T) Wx fi) (tG (gx X T) ix tgt) (tT (gx X T) W0 tt) (tD (gx X T) W0 fe) vs c σ H Q := by
  obtain ⟨F, ad, ρ, w, a0, p⟩ := h
  refine ⟨F, ad, ρ, w, a0, (p.bind a0.hp).imp fun ds w1 F1 H1 h1 g1 p1 J hJ => ⟨h1.tab P hP, fun H2 htb => ?_⟩⟩
  obtain ⟨h2, g2⟩ := h1.tabbed hP htb
  have a1 := a0.grow h1 g1
  refine ⟨fun i m H' => ∃ F2 w2, HeapOk (gx X T) F2 ad H' w2 ∧ Grow (gx X T) ad F1 H1 F2 H' ∧ m = ds.length - i ∧ i ≤ ds.length ∧
      Post (gx X T) Wx σ F1 ad H1 (fun d _ F' H' => ∀ v, Rep X.K F' v d → Q v H') (gnL c tgt tt fe (wipeE ρ vs) (ds.drop i) w2).calm, ⟨ds.length, F1, w1, h2, g2, rfl, Nat.zero_le _, p1⟩, fun i m H' hW => ?_⟩
  obtain ⟨F2, w2, h3, g3, hm, hi, p3⟩ := hW
  obtain ⟨k1, k2, k3⟩ := hJ F2 H' w2 h3 g3.mono
  by_cases hlt : i < ds.length
  · refine .inr ⟨k1 i hlt, fun H4 => ∃ F4 w4, HeapOk (gx X T) F4 ad H4 w4 ∧ Grow (gx X T) ad F1 H1 F4 H4 ∧
      Post (gx X T) Wx σ F1 ad H1 (fun d _ F' H' => ∀ v, Rep X.K F' v d → Q v H') (gnL c tgt tt fe (wipeE ρ vs) (ds.drop (i + 1)) w4).calm, fun H4 z => ?_, fun x H4 y => ?_⟩
    · obtain ⟨F4, w4, z1, z2, z3⟩ := z
      exact ⟨ds.length - (i + 1), by omega, F4, w4, z1, z2, rfl, hlt, z3⟩
    · obtain ⟨F4, d, e1, h4, g4, r4⟩ := k3 i x H4 hlt y
      rw [drop_cons e1] at p3
      unfold gnL at p3
      have g14 := g3.then h3 g4
      have a4 : At (gx X T) F4 ad (wipe σ vs) H4 (wipeE ρ vs) w2 := ⟨h4, (a1.en.grow a1.hp g14).wipe⟩
      cases et : tgt d (wipeE ρ vs) with
      | none => simp only [et] at p3; exact p3.elim
      | some ρ1 =>
        simp only [et] at p3
        refine ⟨F4, ad, wipeE ρ vs, w2, d, ρ1, a4, r4, et, fun σ2 en2 _ os => ⟨?_, ?_⟩⟩
        · have e := wipe_eq (σ := wipe σ vs) (vs := vs) os.1 fun j hj => os.2 j fun z => hj (hix j z)
          rw [e]; exact wipe_wipe
        · refine ⟨F4, ad, ρ1, w2, ⟨h4, en2⟩, ?_⟩
          cases eb : tt ρ1 w2 with
          | bad => simp only [eb] at p3; exact p3.elim
          | exc c w => simp only [eb] at p3; exact p3.elim
          | ok b w5 =>
            simp only [eb] at p3
            intro F5 H5 h5 g5
            have g15 := g14.then h4 g5
            cases b with
            | false =>
              show (if _ then _ else _)
              rw [if_neg Bool.false_ne_true]
              exact ⟨F5, w5, h5, g15, p3⟩
            | true =>
              show (if _ then _ else _)
              rw [if_pos rfl]
              have p3 : Post (gx X T) Wx σ F1 ad H1 (fun d _ F' H' => ∀ v, Rep X.K F' v d → Q v H')
                ((fe ρ1 w5).bind fun y w2 => match y with
                  | .bool k => if k = c then gnL c tgt tt fe (wipeE ρ vs) (ds.drop (i + 1)) w2 else .ok (.bool (!c)) w2
                  | _ => .bad).calm := p3
              refine ⟨F5, ad, ρ1, w5, ⟨h5, en2.grow h4 g5⟩, ?_⟩
              cases ef : fe ρ1 w5 with
              | bad => simp only [ef] at p3; exact p3.elim
              | exc c w => simp only [ef] at p3; exact p3.elim
              | ok y w6 =>
                simp only [ef] at p3
                intro F6 H6 h6 g6 v rv
                have g16 := g15.then h5 g6
                cases y with
                | bool kk =>
                  cases rv
                  have p3 : Post (gx X T) Wx σ F1 ad H1 (fun d _ F' H' => ∀ v, Rep X.K F' v d → Q v H') (if kk = c then gnL c tgt tt fe (wipeE ρ vs) (ds.drop (i + 1)) w6 else .ok (.bool (!c)) w6).calm := p3
                  refine ⟨kk, rfl, ?_⟩
                  by_cases hk : kk = c
                  · rw [if_pos hk] at p3 ⊢
                    exact ⟨F6, w6, h6, g16, p3⟩
                  · rw [if_neg hk] at p3 ⊢
                    exact p3 F6 H6 h6 g16 _ (.bl _)
                | _ => exact p3.elim
  · have e : i = ds.length := by omega
    subst e
    rw [List.drop_length] at p3
    exact .inl ⟨k2, p3 F2 H' h3 g3 _ (.bl c)⟩
theorem se_all (hP : T P) (hr : Room (k + 1) X.A) (hgl : Gl X "all") (hm : X.mg "all" = none) (hb : bootBuiltins "all" = some (.builtin "all")) (TB : TabB X.base X.mg cc P) (hcode : X.env.code = .ref cc) (S : GScope X.N X.env.scope scope own) (hN : X.N.Nodup) (hix : ∀ i ∈ ix, i ∈ own.map (·.2))
    (hi : SI (gx X T) Wx X tg iter fi) (hg : InGen X scope k fun Y => SG (gx X T) Y tg ix tgt) (ht : InGen X scope k fun Y => PTs Y ifs (tT (gx X T) W0 tt)) (he : InGen X scope k fun Y => SE (gx X T) W0 Y elt fe) (hs : ∀ v, genFold iter X.env v = pure v := by intro _; rfl)
    (hst : starEach [.GeneratorExp elt [⟨tg, iter, ifs, 0⟩] scope gpos] X.env = (false, eval (.GeneratorExp elt [⟨tg, iter, ifs, 0⟩] scope gpos) X.env) :: starEach [] X.env := by rfl) :
    SE (gx X T) Wx X (.Call (.Name "all" p) [.GeneratorExp elt [⟨tg, iter, ifs, 0⟩] scope gpos] [] pos) (eGen true fi tgt tt fe (own.map (·.2))) :=
  PE.imp (pe_allG hr hgl hm hb TB hcode S hN hi hg ht he hs hst) fun σ H Q h => gen_in hP hix h
theorem se_any (hP : T P) (hr : Room (k + 1) X.A) (hgl : Gl X "any") (hm : X.mg "any" = none) (TB : TabB X.base X.mg cc P) (hcode : X.env.code = .ref cc) (S : GScope X.N X.env.scope scope own) (hN : X.N.Nodup) (hix : ∀ i ∈ ix, i ∈ own.map (·.2))
    (hi : SI (gx X T) Wx X tg iter fi) (hg : InGen X scope k fun Y => SG (gx X T) Y tg ix tgt) (ht : InGen X scope k fun Y => PTs Y ifs (tT (gx X T) W0 tt)) (he : InGen X scope k fun Y => SE (gx X T) W0 Y elt fe) (hs : ∀ v, genFold iter X.env v = pure v := by intro _; rfl)
    (hst : starEach [.GeneratorExp elt [⟨tg, iter, ifs, 0⟩] scope gpos] X.env = (false, eval (.GeneratorExp elt [⟨tg, iter, ifs, 0⟩] scope gpos) X.env) :: starEach [] X.env := by rfl) :
    SE (gx X T) Wx X (.Call (.Name "any" p) [.GeneratorExp elt [⟨tg, iter, ifs, 0⟩] scope gpos] [] pos) (eGen false fi tgt tt fe (own.map (·.2))) :=
  PE.imp (pe_anyG hr hgl hm TB hcode S hN hi hg ht he hs hst) fun σ H Q h => gen_in hP hix h
/-- the tests of a clause: none, one, two -/
theorem pts_t1 {Y : Cx} {c : Expr} {tc : Ev → Wd → R Bool} (h : ST (gx X T) W0 Y c tc) : PTs Y [c] (tT (gx X T) W0 tc) := pts_one h
theorem pts_t0 {Y : Cx} : PTs Y [] (tT (gx X T) W0 oYes) := ⟨fun pins s σ H Q I h => pts_nil.run pins s σ H Q I (by
  obtain ⟨F, ad, ρ, w, a0, p⟩ := h
  exact p F H a0.hp Grow.refl)⟩
/-- the scope's check by computing -/
def gscC (N : List Str) (sc scope : Scope) (own : List (Str × Nat)) : Bool :=
  blkC N sc scope own && !scope.isCoroutine && (scope.names.all fun y => match y.2 with | .cell => false | _ => true) && (match scope.names.lookup (".0" : Str) with | some .local => true | _ => false)
theorem gsc_by {N : List Str} {sc scope : Scope} {own : List (Str × Nat)} (h : gscC N sc scope own = true) : GScope N sc scope own := by
  unfold gscC at h
  simp only [Bool.and_eq_true, List.all_eq_true] at h
  obtain ⟨⟨⟨h1, h2⟩, h3⟩, h4⟩ := h
  refine ⟨blkOk_by h1, by simpa using h2, fun y hy e => ?_, ?_⟩
  · have := h3 y hy
    rw [e] at this
    cases this
  · split at h4
    · assumption
    · cases h4
end
end DL

set_option Elab.async false
set_option linter.all false
set_option maxRecDepth 100000
set_option maxHeartbeats 2000000
namespace DL
open PySem PySem.Spec PySem.SeqAt PySem.W L2 DG PyProof.Rows
open GxR (TabB TabG Tabbed)

/-! ### defs -/
def ArgOk (G : Gx) (F : Hp) (ad : Option Addr) (v : V) : Sl → Prop
  | .v d => Rep G.K F v d
  | .dr => ∃ a, ad = some a ∧ v = .ref a
  | .sc ns => ∃ a, v = .ref a ∧ SqL G.K F a (ns.map V.int)
  | _ => False
inductive Args (G : Gx) (F : Hp) (ad : Option Addr) : List V → List Sl → Prop
  | nil : Args G F ad [] []
  | cons {v : V} {s : Sl} {vs : List V} {ss : List Sl} : ArgOk G F ad v s → Args G F ad vs ss → Args G F ad (v :: vs) (s :: ss)
section
variable {G : Gx} {F F' H : Hp} {ad : Option Addr}
theorem ArgOk.mono (m : ∀ a o, F a = some o → F' a = some o) {v : V} {s : Sl} (h : ArgOk G F ad v s) : ArgOk G F' ad v s := by
  cases s with
  | v d => exact Rep.mono m h
  | dr => exact h
  | sc ns => let ⟨a, e, q⟩ := h; exact ⟨a, e, sqL_mono m q⟩
  | ol ds => exact h
  | od ks => exact h
theorem Args.mono (m : ∀ a o, F a = some o → F' a = some o) : ∀ {vs : List V} {ss : List Sl}, Args G F ad vs ss → Args G F' ad vs ss
  | _, _, .nil => .nil
  | _, _, .cons h t => .cons (h.mono m) (Args.mono m t)
theorem Args.length : ∀ {vs : List V} {ss : List Sl}, Args G F ad vs ss → vs.length = ss.length
  | _, _, .nil => rfl
  | _, _, .cons _ t => congrArg (· + 1) (Args.length t)
theorem Args.at : ∀ {vs : List V} {ss : List Sl} (i : Nat) {s : Sl}, Args G F ad vs ss → ss[i]? = some s → ∃ v, vs[i]? = some v ∧ ArgOk G F ad v s
  | _, _, _, _, .nil, e => by simp at e
  | _, _, 0, _, .cons h _, e => by simp at e; subst e; exact ⟨_, rfl, h⟩
  | _, _, i + 1, s, .cons _ t, e => by
    obtain ⟨v, h1, h2⟩ := Args.at i t (by simpa using e)
    exact ⟨v, by simpa using h1, h2⟩
theorem ArgOk.sl {v : V} {s : Sl} (h : ArgOk G F ad v s) : SlOk G F ad H v s ∧ s.own = false := by
  cases s with
  | v d => exact ⟨h, rfl⟩
  | dr => exact ⟨h, rfl⟩
  | sc ns => exact ⟨h, rfl⟩
  | ol ds => exact h.elim
  | od ks => exact h.elim
/-- the slots at the entry -/
def ent (n N : Nat) (ss : List Sl) : Ev := ss.map some ++ List.replicate (N - n) none
theorem env_start {N : List Str} {vs : List V} {ss : List Sl} (h : Args G F ad vs ss) : EnvOk G F ad (L2.start N vs) H (ent vs.length N.length ss) := by
  have hl := h.length
  have key : ∀ (i : Nat) s, (ent vs.length N.length ss)[i]? = some (some s) → ss[i]? = some s := fun i s e => by
    unfold ent at e
    by_cases hi : i < ss.length
    · rw [List.getElem?_append_left (by simpa using hi), List.getElem?_map] at e
      cases q : ss[i]? with
      | none => rw [q] at e; cases e
      | some t => rw [q] at e; cases e; rfl
    · rw [List.getElem?_append_right (by simpa using hi), List.getElem?_replicate] at e
      split at e <;> cases e
  refine ⟨by unfold ent L2.start; simp [hl], fun i s e => ?_, fun i j s t v ne e1 e2 o1 o2 e3 => ?_⟩
  · obtain ⟨v, h1, h2⟩ := h.at i (key i s e)
    refine ⟨v, ?_, h2.sl.1⟩
    unfold L2.start
    have hi : i < vs.length := (List.getElem?_eq_some_iff.mp h1).1
    rw [List.getElem?_append_left (by simpa using hi), List.getElem?_map, h1]
    rfl
  · obtain ⟨v, h1, h2⟩ := h.at i (key i s e1)
    rw [h2.sl (H := H).2] at o1; cases o1
end
/-- behind a call -/
def PostC (G : Gx) (Q : VK) (E : XK) (F : Hp) (ad : Option Addr) (H : Hp) : R D → Prop
  | .ok d w => ∀ v F' H', HeapOk G F' ad H' w → Grow G ad F H F' H' → Rep G.K F' v d → Q v H'
  | .exc c w => ∃ C, G.mg c = some (.ref C) ∧ ∀ F' H', HeapOk G F' ad H' w → Grow G ad F H F' H' → E (.ref C) none H'
  | .bad => False
def PostCO (G : Gx) (Q : VK) (E : XK) (F : Hp) (ad : Option Addr) (H : Hp) : R (List D) → Prop
  | .ok ds w => ∀ a vs F' H', HeapOk G F' ad H' w → Grow G ad F H F' H' → H a = none → H' a = some (.lst vs) → F' a = none → RepL G.K F' vs ds → Q (.ref a) H'
  | .exc c w => ∃ C, G.mg c = some (.ref C) ∧ ∀ F' H', HeapOk G F' ad H' w → Grow G ad F H F' H' → E (.ref C) none H'
  | .bad => False
/-- what a def promises: f on its arguments -/
def spD (G : Gx) (n : Nat) (f : List Sl → Wd → R D) : Sp := fun vs H Q E => ∃ F ad w ss, HeapOk G F ad H w ∧ Args G F ad vs ss ∧ ss.length = n ∧ PostC G Q E F ad H (f ss w)
def spO (G : Gx) (n : Nat) (f : List Sl → Wd → R (List D)) : Sp := fun vs H Q E => ∃ F ad w ss, HeapOk G F ad H w ∧ Args G F ad vs ss ∧ ss.length = n ∧ PostCO G Q E F ad H (f ss w)
def fnD (n N : Nat) (body : Sf) : List Sl → Wd → R D := fun ss w => match body (ent n N ss) w with
  | .nx _ w => .ok .none w
  | .rt d w => .ok d w
  | .exc c w => .exc c w
  | _ => .bad
def fnO (n N : Nat) (body : Sf) : List Sl → Wd → R (List D) := fun ss w => match body (ent n N ss) w with
  | .ro ds w => .ok ds w
  | .exc c w => .exc c w
  | _ => .bad
section
variable {P : Program} {w : World} {K : PySem.W.Frag} {mg : Str → Option Value} {base : Heap} {T : Addr → Prop} {k n : Nat} {x : Str}
/-- a def of the module that keeps such a promise -/
structure Kf (P : Program) (w : World) (K : PySem.W.Frag) (mg : Str → Option Value) (base : Heap) (T : Addr → Prop) (k : Nat) (x : Str) (n : Nat) (fm : List Sl → Wd → R D) : Prop where
  ex : ∃ f fd ps, FnOk P w K mg base (L2.CX P w) k f fd ps (spD ⟨K, mg, T⟩ n fm) ∧ mg x = some (.ref f) ∧ PySem.W.keepIn K (.ref f) = true ∧ Binds K fd ps []
structure KfO (P : Program) (w : World) (K : PySem.W.Frag) (mg : Str → Option Value) (base : Heap) (T : Addr → Prop) (k : Nat) (x : Str) (n : Nat) (fm : List Sl → Wd → R (List D)) : Prop where
  ex : ∃ f fd ps, FnOk P w K mg base (L2.CX P w) k f fd ps (spO ⟨K, mg, T⟩ n fm) ∧ mg x = some (.ref f) ∧ PySem.W.keepIn K (.ref f) = true ∧ Binds K fd ps []
/-- a def as the text has it -/
structure Df (K : PySem.W.Frag) (mg : Str → Option Value) (x : Str) (st : Stmt) (ps : List Str) (f : Addr) (fd : FuncData) : Prop where
  fn : Fun K x x st f fd
  gm : mg x = some (.ref f)
  bd : Binds K fd ps []
theorem AtS.start {G : Gx} {F H : Hp} {ad : Option Addr} {N : List Str} {vs : List V} {ss : List Sl} {wd : Wd} (h : HeapOk G F ad H wd) (a : Args G F ad vs ss) : AtS G F H F ad (L2.start N vs) H (ent vs.length N.length ss) wd :=
  ⟨h, env_start a, Grow.refl, fun i s b e o _ => by
    obtain ⟨v, h1, h2⟩ := a.at i (show ss[i]? = some s by
      unfold ent at e
      by_cases hi : i < ss.length
      · rw [List.getElem?_append_left (by simpa using hi), List.getElem?_map] at e
        cases q : ss[i]? with
        | none => rw [q] at e; cases e
        | some t => rw [q] at e; cases e; rfl
      · rw [List.getElem?_append_right (by simpa using hi), List.getElem?_replicate] at e
        split at e <;> cases e)
    rw [h2.sl (H := H).2] at o; cases o⟩
/-- a def keeps its promise by its body -/
theorem fn_d {st : Stmt} {f : Addr} {fd : FuncData} {N ps : List Str} {sf : Sf} (D0 : Df K mg x st ps f fd) (S : FnScope N ps (defScope st))
    (hb : ∀ (cdv : Value) (A : Around) (outer : List Env) (s : Shared) (H : Hp) (E : XK), fd.code = cdv → Room k (A.deeper (envOfC x (defScope st) s.heap.objs.size f cdv)) →
      SSs ⟨K, mg, T⟩ (fun cls d _ H => E cls d H) (cxOf (L2.CX P w) P w K mg base N x (defScope st) f cdv A outer s H E) (defBody st) sf) :
    Kf P w K mg base T (k + 1) x ps.length (fnD ps.length N.length sf) := by
  refine ⟨f, fd, ps, ?_, D0.gm, D0.fn.kp, D0.bd⟩
  obtain ⟨oc, od, kV, doc, pm, an, cdv, ct, osl, rfl, lk, hcd⟩ := D0.fn.ex
  refine fn_of lk hcd S (fun vs H Q E ⟨F, ad, w, ss, h, a, e, p⟩ => a.length.trans e) fun A outer s H vs Q E hr ⟨F, ad, wd, ss, h, a, e, p⟩ => ⟨_, hb cdv A outer s H E rfl hr, F, H, F, ad, _, wd, AtS.start h a, ?_⟩
  rw [a.length, e]
  unfold fnD at p
  cases q : sf (ent ps.length N.length ss) wd with
  | nx ρ1 w1 => rw [q] at p; exact fun σ F1 H1 a1 => p _ F1 H1 a1.hp a1.gr .non
  | rt d w1 => rw [q] at p; exact p
  | ro ds w1 => rw [q] at p; exact p.elim
  | bk ρ1 w1 => rw [q] at p; exact p.elim
  | ct ρ1 w1 => rw [q] at p; exact p.elim
  | exc c w1 =>
    rw [q] at p
    obtain ⟨C, e1, z⟩ := p
    exact ⟨C, e1, fun σ F1 H1 h1 g1 => z F1 H1 h1 g1⟩
  | bad => rw [q] at p; exact p.elim
theorem fn_o {st : Stmt} {f : Addr} {fd : FuncData} {N ps : List Str} {sf : Sf} (D0 : Df K mg x st ps f fd) (S : FnScope N ps (defScope st))
    (hb : ∀ (cdv : Value) (A : Around) (outer : List Env) (s : Shared) (H : Hp) (E : XK), fd.code = cdv → Room k (A.deeper (envOfC x (defScope st) s.heap.objs.size f cdv)) →
      SSs ⟨K, mg, T⟩ (fun cls d _ H => E cls d H) (cxOf (L2.CX P w) P w K mg base N x (defScope st) f cdv A outer s H E) (defBody st) sf) :
    KfO P w K mg base T (k + 1) x ps.length (fnO ps.length N.length sf) := by
  refine ⟨f, fd, ps, ?_, D0.gm, D0.fn.kp, D0.bd⟩
  obtain ⟨oc, od, kV, doc, pm, an, cdv, ct, osl, rfl, lk, hcd⟩ := D0.fn.ex
  refine fn_of lk hcd S (fun vs H Q E ⟨F, ad, w, ss, h, a, e, p⟩ => a.length.trans e) fun A outer s H vs Q E hr ⟨F, ad, wd, ss, h, a, e, p⟩ => ⟨_, hb cdv A outer s H E rfl hr, F, H, F, ad, _, wd, AtS.start h a, ?_⟩
  rw [a.length, e]
  unfold fnO at p
  cases q : sf (ent ps.length N.length ss) wd with
  | nx ρ1 w1 => rw [q] at p; exact p.elim
  | rt d w1 => rw [q] at p; exact p.elim
  | ro ds w1 => rw [q] at p; exact p
  | bk ρ1 w1 => rw [q] at p; exact p.elim
  | ct ρ1 w1 => rw [q] at p; exact p.elim
  | exc c w1 =>
    rw [q] at p
    obtain ⟨C, e1, z⟩ := p
    exact ⟨C, e1, fun σ F1 H1 h1 g1 => z F1 H1 h1 g1⟩
  | bad => rw [q] at p; exact p.elim
/-- a def that calls itself: at depth 0 nothing is promised -/
theorem kf_zero {st : Stmt} {ps : List Str} {f : Addr} {fd : FuncData} (D0 : Df K mg x st ps f fd) : Kf P w K mg base T k x n (fun _ _ => .bad) :=
  ⟨f, fd, ps, ⟨fun vs H Q E ⟨_, _, _, _, _, _, _, p⟩ => p.elim, fun A outer s H args us vs Q E _ _ _ _ ⟨_, _, _, _, _, _, _, p⟩ => p.elim⟩, D0.gm, D0.fn.kp, D0.bd⟩
theorem Kf.up {j : Nat} {fm : List Sl → Wd → R D} (h : Kf P w K mg base T j x n fm) (hj : j ≤ k) : Kf P w K mg base T k x n fm :=
  let ⟨f, fd, ps, h1, h2⟩ := h.ex; ⟨f, fd, ps, h1.mono hj, h2⟩
theorem KfO.up {j : Nat} {fm : List Sl → Wd → R (List D)} (h : KfO P w K mg base T j x n fm) (hj : j ≤ k) : KfO P w K mg base T k x n fm :=
  let ⟨f, fd, ps, h1, h2⟩ := h.ex; ⟨f, fd, ps, h1.mono hj, h2⟩
end

/-! ### calls -/
def tAr (G : Gx) (Wx : WX) (f : Ev → Wd → R (List Sl)) : TA := fun σ H Q => ∃ F ad ρ w, At G F ad σ H ρ w ∧ Post G Wx σ F ad H (fun ss _ F' H' => ∀ vs, Args G F' ad vs ss → Q vs H') (f ρ w)
abbrev SA (G : Gx) (Wx : WX) (X : Cx) (es : List Expr) (f : Ev → Wd → R (List Sl)) : Prop := PA X es (tAr G Wx f)
def aNil : Ev → Wd → R (List Sl) := fun _ w => .ok [] w
def aCons (fa : Ef) (fs : Ev → Wd → R (List Sl)) : Ev → Wd → R (List Sl) := fun ρ w => (fa ρ w).bind fun d w1 => (fs ρ w1).bind fun ss w2 => .ok (.v d :: ss) w2
/-- a slot that is no data is handed on: the draws, the script -/
def aSl (i : Nat) (fs : Ev → Wd → R (List Sl)) : Ev → Wd → R (List Sl) := fun ρ w => match ρ[i]? with
  | some (some .dr) => (fs ρ w).bind fun ss w2 => .ok (.dr :: ss) w2
  | some (some (.sc ns)) => (fs ρ w).bind fun ss w2 => .ok (.sc ns :: ss) w2
  | _ => .bad
def eCallF (n : Nat) (fm : List Sl → Wd → R D) (fs : Ev → Wd → R (List Sl)) : Ef := fun ρ w => (fs ρ w).bind fun ss w1 => if ss.length = n then fm ss w1 else .bad
def oCallF (n : Nat) (fm : List Sl → Wd → R (List D)) (fs : Ev → Wd → R (List Sl)) : Ev → Wd → R (List D) := fun ρ w => (fs ρ w).bind fun ss w1 => if ss.length = n then fm ss w1 else .bad
section
variable {X : Cx} {T : Addr → Prop} {Wx : WX} {e : Expr} {es : List Expr} {fa : Ef} {fs : Ev → Wd → R (List Sl)} {k n : Nat} {x : Str} {p pos : Pos}
theorem sa_nil : SA (gx X T) Wx X [] aNil := PA.imp pa_nil fun σ H Q ⟨F, ad, ρ, w, a0, p⟩ => p F H a0.hp Grow.refl [] .nil
theorem sa_cons (ha : SE (gx X T) Wx X e fa) (hs : SA (gx X T) Wx X es fs) (hst : starEach (e :: es) X.env = (false, eval e X.env) :: starEach es X.env := by rfl) : SA (gx X T) Wx X (e :: es) (aCons fa fs) :=
  PA.imp (pa_cons ha hs hst) fun σ H Q ⟨F, ad, ρ, w, a0, p⟩ => unE_in a0 p fun F1 H1 w1 x dx a1 g1 rx p1 => ⟨F1, ad, ρ, w1, a1, (p1.bind a1.hp).imp fun ss w2 F2 H2 h2 g2 p2 vs r => p2 F2 H2 h2 Grow.refl (x :: vs) (.cons (Rep.mono g2.mono rx) r)⟩
theorem sa_sl {i : Nat} (hv : PE X e (tVar i)) (hs : SA (gx X T) Wx X es fs) (hst : starEach (e :: es) X.env = (false, eval e X.env) :: starEach es X.env := by rfl) : SA (gx X T) Wx X (e :: es) (aSl i fs) :=
  PA.imp (pa_cons hv hs hst) fun σ H Q ⟨F, ad, ρ, w, a0, p⟩ => by
    unfold aSl at p
    split at p
    · rename_i e0
      obtain ⟨v, h1, h2⟩ := a0.en.sl i _ e0
      exact ⟨v, h1, F, ad, ρ, w, a0, (p.bind a0.hp).imp fun ss w2 F2 H2 h3 g2 p2 vs r => p2 F2 H2 h3 Grow.refl (v :: vs) (.cons h2 r)⟩
    · rename_i ns e0
      obtain ⟨v, h1, a, rfl, h2⟩ := a0.en.sl i _ e0
      exact ⟨.ref a, h1, F, ad, ρ, w, a0, (p.bind a0.hp).imp fun ss w2 F2 H2 h3 g2 p2 vs r => p2 F2 H2 h3 Grow.refl (.ref a :: vs) (.cons ⟨a, rfl, sqL_mono g2.mono h2⟩ r)⟩
    · exact p.elim
theorem se_callD {fm : List Sl → Wd → R D} (c : Kf X.prog X.w X.K X.mg X.base T k x n fm) (hr : Room k X.A) (tk : Takes X Wx) (ha : SA (gx X T) Wx X (e :: es) fs) (hg : Gl X x := by rfl) (hdb : (x == ("__debug__" : Str)) = false := by decide)
    (he : starEach (e :: es) X.env = (false, eval e X.env) :: starEach es X.env := by rfl) (hpl : (backTo pos (starEach es X.env)).any (·.1) = false := by rfl) : SE (gx X T) Wx X (.Call (.Name x p) (e :: es) [] pos) (eCallF n fm fs) := by
  obtain ⟨f, fd, ps, h1, h2, h3, h4⟩ := c.ex
  refine PE.imp (pe_callS h1 hr hg h2 h3 h4 (fun σ => passAt tk σ) ha hdb he hpl) fun σ H Q ⟨F, ad, ρ, w, a0, p⟩ => ⟨F, ad, ρ, w, a0, (p.bind a0.hp).imp fun ss w1 F1 H1 hh g1 p1 vs ra => ?_⟩
  by_cases hl : ss.length = n
  · rw [if_pos hl] at p1
    refine ⟨F1, ad, w1, ss, hh, ra, hl, ?_⟩
    cases q : fm ss w1 with
    | ok d w2 => rw [q] at p1; exact fun v F' H' h' g' r' => p1 F' H' h' g' v r'
    | exc c w2 => rw [q] at p1; exact p1
    | bad => rw [q] at p1; exact p1.elim
  · rw [if_neg hl] at p1
    exact p1.elim
theorem so_callD {fm : List Sl → Wd → R (List D)} (c : KfO X.prog X.w X.K X.mg X.base T k x n fm) (hr : Room k X.A) (tk : Takes X Wx) (ha : SA (gx X T) Wx X (e :: es) fs) (hg : Gl X x := by rfl) (hdb : (x == ("__debug__" : Str)) = false := by decide)
    (he : starEach (e :: es) X.env = (false, eval e X.env) :: starEach es X.env := by rfl) (hpl : (backTo pos (starEach es X.env)).any (·.1) = false := by rfl) : SO (gx X T) Wx X (.Call (.Name x p) (e :: es) [] pos) (oCallF n fm fs) := by
  obtain ⟨f, fd, ps, h1, h2, h3, h4⟩ := c.ex
  refine PE.imp (pe_callS h1 hr hg h2 h3 h4 (fun σ => passAt tk σ) ha hdb he hpl) fun σ H Q ⟨F, ad, ρ, w, a0, p⟩ => ⟨F, ad, ρ, w, a0, (p.bind a0.hp).imp fun ss w1 F1 H1 hh g1 p1 vs ra => ?_⟩
  by_cases hl : ss.length = n
  · rw [if_pos hl] at p1
    refine ⟨F1, ad, w1, ss, hh, ra, hl, ?_⟩
    cases q : fm ss w1 with
    | ok ds w2 =>
      rw [q] at p1
      exact fun a us F' H' h' g' n1 n2 n3 r' => p1 F' H' h' g' a us (none0 hh g1 n1) n2 n3 r'
    | exc c w2 => rw [q] at p1; exact p1
    | bad => rw [q] at p1; exact p1.elim
  · rw [if_neg hl] at p1
    exact p1.elim
end
end DL

set_option Elab.async false
set_option linter.all false
set_option maxRecDepth 100000
set_option maxHeartbeats 2000000
namespace DL
open PySem PySem.Spec PySem.SeqAt PySem.W L2 DG PyProof.Rows
open GxR (TabB TabG Tabbed)

/-! ### dicts whose keys are ints and texts -/
def dkey : D → Option Key
  | .int i => some (.inl i)
  | .str x => some (.inr x)
  | _ => none
def isKey : Key → D → Bool
  | .inl i, .int j => decide (j = i)
  | .inr x, .str y => decide (y = x)
  | _, _ => false
theorem isKey_key (k j : Key) : isKey k (keyD j) = decide (j = k) := by
  cases k with
  | inl a =>
    cases j with
    | inl b => show decide (b = a) = _; by_cases e : b = a <;> simp [e]
    | inr b => show false = _; simp
  | inr a =>
    cases j with
    | inl b => show false = _; simp
    | inr b => show decide (b = a) = _; by_cases e : b = a <;> simp [e]
def valD (kds : List (D × D)) (k : Key) : Option D := (kds.find? fun p => isKey k p.1).map (·.2)
def putD (kds : List (D × D)) (k : Key) (d : D) : List (D × D) := if (kds.any fun p => isKey k p.1) = true then kds.map (fun p => if isKey k p.1 = true then (p.1, d) else p) else kds ++ [(keyD k, d)]
section
variable {K : PySem.W.Frag} {F : Hp}
theorem DKp.val (k : Key) : ∀ {kvs : List (Key × V)} {kds : List (D × D)}, DKp K F kvs kds → (∀ d, valD kds k = some d → ∃ v, valV kvs k = some v ∧ Rep K F v d) ∧ (valD kds k = none → valV kvs k = none)
  | _, _, .nil => ⟨(fun d e => by cases e), fun _ => rfl⟩
  | _, _, .cons (k := j) (v := v) (d := d0) (ks := ks) (kds := kds) r t => by
    obtain ⟨h1, h2⟩ := DKp.val k t
    have e0 : isKey k (keyD j) = decide (j = k) := isKey_key k j
    by_cases e : j = k
    · refine ⟨fun d q => ⟨v, valV_pos e, ?_⟩, fun q => ?_⟩
      · have e1 : isKey k (keyD j) = true := by rw [e0]; exact decide_eq_true e
        have : d0 = d := by simpa [valD, List.find?_cons, e1] using q
        rw [← this]; exact r
      · have e1 : isKey k (keyD j) = true := by rw [e0]; exact decide_eq_true e
        simp [valD, List.find?_cons, e1] at q
    · have a : valD ((keyD j, d0) :: kds) k = valD kds k := by simp [valD, List.find?_cons, e0, e]
      have b : valV ((j, v) :: ks) k = valV ks k := valV_neg e
      rw [a, b]
      exact ⟨h1, h2⟩
theorem DKp.any (k : Key) : ∀ {kvs : List (Key × V)} {kds : List (D × D)}, DKp K F kvs kds → (kds.any fun p => isKey k p.1) = (kvs.any fun p => decide (p.1 = k))
  | _, _, .nil => rfl
  | _, _, .cons r t => by rw [List.any_cons, List.any_cons, isKey_key, DKp.any k t]
theorem DKp.map (k : Key) {v : V} {d : D} (r : Rep K F v d) : ∀ {kvs : List (Key × V)} {kds : List (D × D)}, DKp K F kvs kds → DKp K F (kvs.map fun kv => if kv.1 = k then (kv.1, v) else kv) (kds.map fun p => if isKey k p.1 = true then (p.1, d) else p)
  | _, _, .nil => .nil
  | _, _, .cons (k := j) r0 t => by
    rw [List.map_cons, List.map_cons]
    have e0 : isKey k (keyD j) = decide (j = k) := isKey_key k j
    by_cases e : j = k
    · have e1 : isKey k (keyD j) = true := by rw [e0]; exact decide_eq_true e
      rw [if_pos (show (j, _).1 = k from e), if_pos (show isKey k (keyD j, _).1 = true from e1)]
      exact .cons r (DKp.map k r t)
    · have e1 : ¬ isKey k (keyD j) = true := by rw [e0, decide_eq_false e]; exact Bool.false_ne_true
      rw [if_neg (show ¬ (j, _).1 = k from e), if_neg (show ¬ isKey k (keyD j, _).1 = true from e1)]
      exact .cons r0 (DKp.map k r t)
theorem DKp.snoc (k : Key) {v : V} {d : D} (r : Rep K F v d) : ∀ {kvs : List (Key × V)} {kds : List (D × D)}, DKp K F kvs kds → DKp K F (kvs ++ [(k, v)]) (kds ++ [(keyD k, d)])
  | _, _, .nil => .cons r .nil
  | _, _, .cons r0 t => .cons r0 (DKp.snoc k r t)
theorem DKp.put (k : Key) {v : V} {d : D} (r : Rep K F v d) {kvs : List (Key × V)} {kds : List (D × D)} (h : DKp K F kvs kds) : DKp K F (putK kvs k v) (putD kds k d) := by
  unfold putK putD
  rw [h.any k]
  split
  · exact h.map k r
  · exact h.snoc k r
theorem key_rep {v : V} {d : D} {k : Key} (r : Rep K F v d) (e : dkey d = some k) : v = kV k := by
  cases r <;> first | (cases e; rfl) | cases e
end
section
variable {X : Cx} {T : Addr → Prop} {Wx : WX} {a b c o e : Expr} {fa fb fc : Ef} {pos apos cpos p1 : Pos} {x : Str}
/-- d[k], k there -/
def dDix : D → D → Option D
  | .dict kds, k => (dkey k).bind fun k => valD kds k
  | _, _ => none
theorem dd_get {F H : Hp} {ad : Option Addr} {w : Wd} {v y : V} {kds : List (D × D)} {dk : D} {k : Key} (hp : HeapOk (gx X T) F ad H w) (rx : RepB (gx X T) F ad H v (.dict kds)) (ry : RepB (gx X T) F ad H y dk) (ek : dkey dk = some k) :
    ∃ a r, v = .ref a ∧ DGet H a y r ∧ (∀ d, valD kds k = some d → ∃ u, r = some u ∧ Rep X.K F u d) ∧ (valD kds k = none → r = none) := by
  obtain ⟨a, kvs, rfl, hr, hk⟩ := rx.dict hp
  have hy : y = kV k := by
    rcases ry with ry | ⟨ds, rfl, _⟩ | ⟨ds, rfl, _⟩
    · exact key_rep ry ek
    · cases ek
    · cases ek
  obtain ⟨h1, h2⟩ := hk.val k
  exact ⟨a, valV kvs k, rfl, .inl ⟨kvs, k, hr, hy, rfl⟩, h1, h2⟩
theorem se_dix (hu : X.A.units + 100 < cLine) (ha : SB (gx X T) Wx X a fa) (hb : SB (gx X T) Wx X b fb) (hs : NoSl b := by exact fun _ _ => rfl) : SE (gx X T) Wx X (.Subscript a b pos) (eBin dDix fa fb) :=
  PE.imp (pe_dget (by omega) ha hb hs) fun σ H Q ⟨F, ad, ρ, w, a0, p⟩ => bin_in a0 p fun F1 H1 w1 x y dx dy a1 _ rx ry p1 => by
    cases e : dDix dx dy with
    | none => rw [e] at p1; exact p1.elim
    | some z =>
      rw [e] at p1
      cases dx with
      | dict kds =>
        cases ek : dkey dy with
        | none => simp [dDix, ek] at e
        | some k =>
          have e2 : valD kds k = some z := by simpa [dDix, ek] using e
          obtain ⟨a, r, rfl, g, h1, h2⟩ := dd_get a1.hp rx ry ek
          obtain ⟨u, rfl, ru⟩ := h1 z e2
          exact ⟨a, u, rfl, g, p1 F1 H1 a1.hp Grow.refl u ru⟩
      | _ => cases e
/-- k in c, c of any kind -/
def dIn2 (neg : Bool) : D → D → Option D
  | k, .dict kds => (dkey k).map fun k => .bool (xor neg (valD kds k).isSome)
  | k, .list ds => if neg then dNin k (.list ds) else dIn k (.list ds)
  | k, .tuple ds => if neg then dNin k (.tuple ds) else dIn k (.tuple ds)
  | _, _ => none
theorem od_in2 (hu : X.A.units + 100 < cLine) : OpD X T (compareOp .In) (dIn2 false) := by
  intro pins s σ H x y v u Q F ad w dx dy d I rx ry hp bx bY e q
  cases dy with
  | dict kds =>
    cases ek : dkey dx with
    | none => simp [dIn2, ek] at e
    | some k =>
      obtain rfl : d = .bool (valD kds k).isSome := by simpa [dIn2, ek] using e.symm
      obtain ⟨a, r, rfl, g, h1, h2⟩ := dd_get hp bY bx ek
      obtain rfl : u = Value.ref a := ry
      refine d_in (by omega) I g rx fun s3 I3 => ⟨.bl r.isSome, H, I3, rfl, ?_⟩
      have e : r.isSome = (valD kds k).isSome := by
        cases q : valD kds k with
        | none => rw [h2 q] <;> rfl
        | some d => obtain ⟨u, e, _⟩ := h1 d q; rw [e] <;> rfl
      rw [e]
      exact q _ _ _ hp Grow.refl (.bl _)
  | list ds => exact od_in hu pins s σ H x y v u Q F ad w dx _ d I rx ry hp bx bY e q
  | tuple ds => exact od_in hu pins s σ H x y v u Q F ad w dx _ d I rx ry hp bx bY e q
  | _ => cases dx <;> cases e
theorem od_nin2 (hu : X.A.units + 100 < cLine) : OpD X T (compareOp .NotIn) (dIn2 true) := by
  intro pins s σ H x y v u Q F ad w dx dy d I rx ry hp bx bY e q
  cases dy with
  | dict kds =>
    cases ek : dkey dx with
    | none => simp [dIn2, ek] at e
    | some k =>
      obtain rfl : d = .bool (!(valD kds k).isSome) := by simpa [dIn2, ek] using e.symm
      obtain ⟨a, r, rfl, g, h1, h2⟩ := dd_get hp bY bx ek
      obtain rfl : u = Value.ref a := ry
      refine d_notIn (by omega) I g rx fun s3 I3 => ⟨.bl (!r.isSome), H, I3, rfl, ?_⟩
      have e : r.isSome = (valD kds k).isSome := by
        cases q : valD kds k with
        | none => rw [h2 q] <;> rfl
        | some d => obtain ⟨u, e, _⟩ := h1 d q; rw [e] <;> rfl
      rw [e]
      exact q _ _ _ hp Grow.refl (.bl _)
  | list ds => exact od_nin hu pins s σ H x y v u Q F ad w dx _ d I rx ry hp bx bY e q
  | tuple ds => exact od_nin hu pins s σ H x y v u Q F ad w dx _ d I rx ry hp bx bY e q
  | _ => cases dx <;> cases e
/-- x = {} -/
def sDnew (i : Nat) : Sf := fun ρ w => if i < ρ.length then .nx (ρ.set i (some (.od []))) w else .bad
theorem dnew_in {i : Nat} {σ : L2.St} {H : Hp} {Dn : Ends} (h : tS (gx X T) Wx (sDnew i) Dn σ H) : tAsg tDNewK (gName i) Dn σ H := by
  obtain ⟨F0, H0, F, ad, ρ, w, a0, p⟩ := h
  unfold sDnew at p
  split at p
  · rename_i hi
    intro d hd
    have nT : ¬ T d := fun z => a0.hp.tN d z hd
    have nD : ad ≠ some d := fun z => a0.hp.dN d z hd
    have nF : F d = none := by
      cases q : F d with
      | none => rfl
      | some o => have := a0.hp.sub d o q; rw [hd] at this; cases this
    obtain ⟨h1, g1⟩ := a0.hp.new (o := .dK []) hd
    have a1 := a0.grow h1 g1
    refine p _ F _ (a1.setOwn hi rfl ⟨d, .dK [], rfl, nF, nD, upd_same, [], rfl, .nil⟩ (none0 a0.hp a0.gr hd) fun j t e o z => ?_)
    obtain ⟨v, h3, h4⟩ := a0.en.sl j t e
    rw [z] at h3
    cases h3
    cases t with
    | v d => cases o
    | dr => cases o
    | sc ns => cases o
    | ol ds =>
      obtain ⟨b, vs, z, _, _, h5, _⟩ := h4
      cases z
      rw [hd] at h5; cases h5
    | od kvs =>
      obtain ⟨b, o, z, _, _, h5, _⟩ := h4
      cases z
      rw [hd] at h5; cases h5
  · exact p.elim
theorem ss_dnew {i : Nat} {pos' : Pos} (hN : X.N.Nodup) (hi : X.N[i]? = some x) (hx : Loc X.env.scope x) (hs : swapsWith (.Dict [] [] p1) (some (.Name x pos')) pos.line X.env = pure false := by rfl)
    (hf : X.fn x = true ∨ X.env.scope.names.lookup x = some .local := by first | exact .inl rfl | exact .inr rfl | assumption) : SS (gx X T) Wx X (.Assign [.Name x pos'] (.Dict [] [] p1) pos) (sDnew i) :=
  PS.imp (ps_set hN hi hx pe_dnewK hs hf) fun Dn σ H h => dnew_in h
/-- x[k] = e -/
def sDput (i : Nat) (fk fv : Ef) : Sf := fun ρ w => bindS (fv ρ w) fun d w1 => match ρ[i]? with
  | some (some (.od kds)) => bindS (fk ρ w1) fun dk w2 => match dkey dk with
    | some k => if kds.length < sizeLine then .nx (ρ.set i (some (.od (putD kds k d)))) w2 else .bad
    | none => .bad
  | _ => .bad
theorem ss_dput {i : Nat} {pos' : Pos} (hu : X.A.units + 100 < cLine) (hv : PE X (.Name x p1) (tVar i)) (hk : SE (gx X T) Wx X b fb) (he : SE (gx X T) Wx X e fa) (hs : swapsWith e (some (.Subscript (.Name x p1) b pos')) pos.line X.env = pure false := by rfl) :
    SS (gx X T) Wx X (.Assign [.Subscript (.Name x p1) b pos'] e pos) (sDput i fb fa) :=
  PS.imp (ps_dput (by omega) hv hk he hs) fun Dn σ H ⟨F0, H0, F, ad, ρ, w, a0, p⟩ => exprD_in a0 p fun F1 H1 w1 y dy a1 r p1 => by
    split at p1
    case h_2 => exact p1.elim
    rename_i kds e
    obtain ⟨v, h1, a, o, rfl, h3, h4, h5, kvs, rfl, h6⟩ := a1.en.sl i _ e
    refine ⟨_, h1, F1, ad, ρ, w1, a1.at, (expr_post a1 p1).imp fun dz w2 F2 H2 _ g2 qq z r2 => ?_⟩
    obtain ⟨a2, p2⟩ := qq
    split at p2
    case h_2 => exact p2.elim
    rename_i k ek
    split at p2
    case isFalse => exact p2.elim
    rename_i hl
    obtain ⟨v2, g1, a', o', z', g3, g4, g5, kvs', rfl, g6⟩ := a2.en.sl i _ e
    rw [h1] at g1
    cases g1
    cases z'
    have rd : Rep X.K F2 y dy := Rep.mono g2.mono r
    refine ⟨a, _, rfl, .inl ⟨kvs', k, g5, key_rep r2 ek, by rw [g6.length]; exact hl, rfl⟩, ?_⟩
    exact p2 σ F2 _ (a2.put e rfl h1 (notT a2.hp g5 fun ps z => by cases z) g3 g4 rfl ⟨a, _, rfl, g3, g4, upd_same, _, rfl, g6.put k rd⟩)
end
end DL

set_option Elab.async false
set_option linter.all false
set_option maxRecDepth 100000
set_option maxHeartbeats 2000000
/-! enumerate over a tuple; what the kit has for a list -/
namespace DG
open PySem PySem.Spec PyProof.Rows L2
open Sem (wp)
set_option maxHeartbeats 1000000 in
theorem meets_enum1 {v : Value} {o : Obj} {H : Heap → Prop} (B : Begins v o H) :
    Meets (Builtin.«enumerate.__new__» ⟨[.type "enumerate", v], []⟩) (fun _ R s => H s.heap ∧
      R (.ok (.ret (.ref (s.heap.push o).objs.size))) { s with heap := (s.heap.push o).push { cls := .type "enumerate", data := .fields #[.none, .bool false, .ref s.heap.objs.size, rawInt 0, .none, .none] } }) :=
  .of_wp fun prog w A R s h => by
    obtain ⟨hp, g, d, tk, os⟩ := s; obtain ⟨h1, h⟩ := h
    have hsub := sub_enumerate
    have q1 : ∀ {A' : Around} {E : Value → Shared → Prop} {Q : Value → Shared → Prop}, Q (.ref hp.objs.size) ⟨hp.push o, g, d, tk, os⟩ → wpAny (model prog w) A' (pyIter v) Q E ⟨hp, g, d, tk, os⟩ :=
      fun q => B.iter prog w _ _ ⟨hp, g, d, tk, os⟩ _ h1 q
    wp_walk using q1
    refine wpAny_stack_any fun st => wpAny_pure ?_
    split
    · rename_i c _ _ _ _ _
      cases (c == Value.type "enumerate")
      · wp_walk using q1
        exact ⟨_, rfl, h⟩
      · wp_walk using q1
        exact ⟨_, rfl, h⟩
    · wp_walk using q1
      exact ⟨_, rfl, h⟩
section
variable {prog : Program} {w : World} {A : Around} {E : Value → Shared → Prop} {s : Shared}
theorem call_enum1 {v : Value} {o : Obj} {H : Heap → Prop} {Q : Value → Shared → Prop} (B : Begins v o H) (h1 : H s.heap)
    (h : ∀ h', IsEnum h' (s.heap.objs.size + 1) s.heap.objs.size 0 .none → h'.get? s.heap.objs.size = some o → h'.objs.size = s.heap.objs.size + 2 →
      (∀ b o, s.heap.get? b = some o → h'.get? b = some o) → Q (.ref (s.heap.objs.size + 1)) { s with heap := h' }) :
    wpAny (model prog w) A (call (.type "enumerate") [v]) Q E s := by
  refine callType_new PySem.F.called_enumerate (by decide) (PySem.F.typeCall_enumerate_1 _) (PySem.F.newCall_enumerate_1 _) (fun obj => PySem.F.args_object_init_2 obj _) PySem.F.entry_enumerate_new
    (meets_enum1 B) ⟨h1, ?_⟩
  have hz : (s.heap.push o).objs.size = s.heap.objs.size + 1 := Heap.size_push ..
  show _ ∧ _
  rw [hz]
  have he : IsEnum ((s.heap.push o).push { cls := .type "enumerate", data := .fields #[.none, .bool false, .ref s.heap.objs.size, rawInt 0, .none, .none] }) (s.heap.objs.size + 1) s.heap.objs.size 0 .none := by
    have := Heap.get?_push_size (s.heap.push o) (o := { cls := .type "enumerate", data := .fields #[.none, .bool false, .ref s.heap.objs.size, rawInt 0, .none, .none] }) rfl
    rw [hz] at this; exact this
  refine ⟨⟨_, he, rfl⟩, h _ he (Heap.get?_push_of_some _ (Heap.get?_push_size _ B.free)) (by rw [Heap.size_push, hz]) fun b o x => Heap.get?_push_of_some _ (Heap.get?_push_of_some _ x)⟩
end
/-- the tuple at a, each item in a new pair -/
def ItEt (K : PySem.W.Frag) (a : Addr) : It :=
  ⟨fun i H => ∃ (xs : List V) (x : V), SqT K H a xs ∧ xs[i]? = some x, fun i H v H' => ∃ T x, v = .ref T ∧ H T = none ∧ H' = upd H T (.tup [.int (i : Nat), x]) ∧ ∀ xs, SqT K H a xs → xs[i]? = some x, fun i H => ∃ xs : List V, SqT K H a xs ∧ xs.length ≤ i⟩
theorem turn_enumT {P : Program} {w : World} {K : PySem.W.Frag} {elts : List Expr} {kk : Nat} {tpos : Pos} (a e it : Addr) :
    Turn P w K (.Tuple elts kk tpos) (ItEt K a) [e, it] e (fun i h => (∃ old, IsEnum h e it ((i : Nat) : Int) old) ∧ h.IsTupleIter it a i ∧ e ≠ it ∧ a ≠ it ∧ a ≠ e) where
  mem := by simp
  obj := fun i h st b hb => by
    obtain ⟨⟨old, he⟩, ⟨o, ho, hc, hd⟩, _⟩ := st
    have e' : b = e ∨ b = it := by simpa using hb
    rcases e' with z | z
    · rw [z]; exact ⟨_, he, fun v q => nomatch q⟩
    · rw [z]; exact ⟨o, ho, fun v q => by rw [hd] at q; cases q⟩
  keep := fun i h h' st k => let ⟨⟨old, he⟩, hi, hne, h1, h2⟩ := st; ⟨⟨old, k e (by simp) _ he⟩, hi.at fun o q => k it (by simp) o q, hne, h1, h2⟩
  item := by
    intro X hP hw hK hc i pins s σ H E I hf st hg
    subst hP hw hK
    obtain ⟨⟨old, he⟩, hit, hne, hai, hae⟩ := st
    obtain ⟨xs, x, hq, hx⟩ := hg
    obtain ⟨its, rv, p, hz⟩ := I.tuple hq
    obtain ⟨u, hu, ru⟩ := rv.get hx
    have hel : e < s.heap.objs.size := Heap.lt_size he
    have hil : it < s.heap.objs.size := by obtain ⟨_, q, _⟩ := hit; exact Heap.lt_size q
    have p' : s.heap.IsTuple a its.toArray := p
    have hlt : i < its.toArray.size := by
      have := (List.getElem?_eq_some_iff.mp hu).1
      simpa using this
    refine wpAny_pyNext_enum_itemD (Draws.tuple (A := X.A.in1) (I.ok.hd hc) it a hai its.toArray) he ⟨hit, p'⟩ hlt hne (by simp [hne, Ne.symm hae]) fun v h' tk hv ho hst' hT hsz hk => ?_
    have ev : v = u := by
      have hv : its.toArray[i]? = some v := hv
      rw [show its.toArray[i]? = some u by simpa using hu] at hv
      exact (Option.some.inj hv).symm
    subst ev
    refine ⟨_, rfl, wpAny_letOwnedTupleGo_enum (s := { s with heap := h', toks := tk + 1 }) ho fun h'' he' sb => ?_⟩
    have hT2 : h''.get? s.heap.objs.size = some { cls := .type "tuple", data := .seq #[.int i tk, v] } := (sb.2 _ (Nat.ne_of_gt hel)).trans hT
    have new : ObjOk X.prog X.w (upd H s.heap.objs.size (.tup [.int (i : Nat), x])) h'' s.heap.objs.size (.tup [.int (i : Nat), x]) :=
      ⟨by show 2 ≤ sizeLine; decide, [.int i tk, v], .cons ⟨_, rfl⟩ (.cons ru .nil), ⟨_, hT2, rfl, _, rfl⟩⟩
    have I1 : Inv X pins σ (upd H s.heap.objs.size (.tup [.int (i : Nat), x])) { s with heap := h'', toks := tk + 1 } :=
      I.turnedNew (ch := [e, it]) (fun b ob hb q => (sb.2 b (fun z => hb (by simp [z]))).trans (hk b ob (fun z => hb (by simp [z])) (fun z => hb (by simp [z])) q)) hf (Nat.le_refl _) new
    refine ⟨.ref s.heap.objs.size, _, I1, rfl, ⟨_, x, rfl, I.hok.fresh (Nat.le_refl _), rfl, fun ys hy => by rw [I.tuple_inj hy hq]; exact hx⟩, ⟨⟨v, ?_⟩, hst'.1.at fun o q => (sb.2 it (Ne.symm hne)).trans q, hne, hai, hae⟩, fun b hb => ?_⟩
    · have e1 : ((i + 1 : Nat) : Int) = (i : Int) + 1 := by omega
      rw [e1]; exact he'
    · have hb' : b < s.heap.objs.size := by
        have e' : b = e ∨ b = it := by simpa using hb
        rcases e' with z | z
        · rw [z]; exact hel
        · rw [z]; exact hil
      rw [upd_ne (Nat.ne_of_lt hb')]
      exact (hf b hb).1
  done := by
    intro X hP hw hK hc i pins s σ H E I hf st hg
    subst hP hw hK
    obtain ⟨⟨old, he⟩, hit, hne, hai, hae⟩ := st
    obtain ⟨xs, hq, hx⟩ := hg
    obtain ⟨its, rv, p, hz⟩ := I.tuple hq
    obtain ⟨f0, f1, f2, f3, f4, f5⟩ := hf it (by simp)
    have p' : s.heap.IsTuple a its.toArray := p
    have hl := rv.length
    have hT : s.TypeIs (.ref e) "enumerate" := ⟨_, he, rfl⟩
    unfold pyNext
    refine wpAny_bind (wpAny_attempt (wpAny_callSpecial?_slot (name := Str.ofString "__next__") hT PySem.F.slot_enumerate_next
      (wpAny_call_entry PySem.F.slot_enumerate_next hT PySem.F.entry_enumerate_next ?_ (PySem.F.args_enumerate_next_1 _))))
    show wpAny _ _ (field (.ref e) 2 >>= _) _ _ _
    refine wpAny_bind (wpAny_field he rfl (x := .ref it) rfl ?_)
    refine wpAny_bind (wpAny_nextOf_tuple_end (I.ok.hd hc) hit p' (by simp; omega) fun h' x he' hx' => ?_)
    obtain ⟨o, ho, hc'⟩ := hx'
    refine wpAny_bind (wpAny_isInstance (T := "StopIteration") (b := true) ⟨o, ho, hc'⟩ isSubtype_stop ?_)
    exact wpAny_pure ⟨rfl, I.turned (t' := s.toks) (fun b o hb q => he' b o hb q) f0 f1 f3 f4 f5⟩
  self := fun A i s Q E st h => let ⟨⟨_, he⟩, _⟩ := st; wpAny_pyIter_enum he h
/-- enumerate(x), x a list or a tuple -/
def iEnumA (K : PySem.W.Frag) (te : TE) : TI := fun σ H R => te σ H fun v H1 => ∃ a, v = .ref a ∧ ((∃ xs, SqL K H1 a xs ∧ R (Ite K a) H1) ∨ ∃ xs, SqT K H1 a xs ∧ R (ItEt K a) H1)
theorem pi_enumA {X : Cx} {e : Expr} {te : TE} {p pos tpos : Pos} {elts : List Expr} {kk : Nat} (hg : Gl X "enumerate") (hm : X.mg "enumerate" = none) (he : PE X e te) (hs : starEach [e] X.env = (false, eval e X.env) :: starEach [] X.env := by rfl) :
    PI X (.Tuple elts kk tpos) (.Call (.Name "enumerate" p) [e] [] pos) (iEnumA X.K te) := by
  refine ⟨fun pins s σ H R I h => ?_⟩
  refine Call_ (ld_blt I hg hm boot_enumerate (PyProof.Rows.callWith_type1 (args_cons (thn (he.run pins s σ H _ I h) fun u s1 ⟨v, H1, I1, r1, q1⟩ => args_nil ?_) hs) hs rfl))
  obtain ⟨a, ev, q⟩ := q1
  subst ev
  obtain rfl : u = Value.ref a := r1
  have fin : ∀ {h' : Heap} {b : Addr}, (b = s1.heap.objs.size + 1 ∨ b = s1.heap.objs.size) → FpOk X pins H1 b := fun {h' b} e' => by
    have hle : s1.heap.objs.size ≤ b := by
      rcases e' with z | z
      · rw [z]; exact Nat.le_add_right _ _
      · rw [z]; exact Nat.le_refl _
    exact I1.fpOk hle (I1.hok.fresh hle)
  rcases q with ⟨xs, hq, q⟩ | ⟨xs, hq, q⟩
  · obtain ⟨its, rv, p', hz⟩ := I1.list hq
    refine call_enumerate_list p'.isList fun h' he hit hsz hk => wpAny_pyIter_enum he ?_
    have I2 : Inv X pins σ H1 { s1 with heap := h' } := I1.kept (t' := s1.toks) hk
    exact ⟨s1.heap.objs.size + 1, [s1.heap.objs.size + 1, s1.heap.objs.size], _, _, H1, rfl, I2, turn_enum a (s1.heap.objs.size + 1) s1.heap.objs.size, ⟨⟨.none, he⟩, hit, Nat.succ_ne_self _⟩, fun b hb => fin (h' := h') (by simpa using hb), q⟩
  · obtain ⟨its, rv, p', hz⟩ := I1.tuple hq
    have p2 : s1.heap.IsTuple a its.toArray := p'
    have hal : a < s1.heap.objs.size := by obtain ⟨o, e, _⟩ := p2; exact Heap.lt_size e
    refine call_enum1 (begins_tuple a its.toArray) p2 fun h' he hit hsz hk => wpAny_pyIter_enum he ?_
    have I2 : Inv X pins σ H1 { s1 with heap := h' } := I1.kept (t' := s1.toks) hk
    exact ⟨s1.heap.objs.size + 1, [s1.heap.objs.size + 1, s1.heap.objs.size], _, _, H1, rfl, I2, turn_enumT a (s1.heap.objs.size + 1) s1.heap.objs.size, ⟨⟨.none, he⟩, ⟨_, hit, rfl, rfl⟩, Nat.succ_ne_self _, Nat.ne_of_lt hal, Nat.ne_of_lt (Nat.lt_succ_of_lt hal)⟩, fun b hb => fin (h' := h') (by simpa using hb), q⟩
end DG

set_option Elab.async false
set_option linter.all false
set_option maxRecDepth 100000
set_option maxHeartbeats 2000000
/-! list(reversed(x)), x a list -/
namespace DG
open PySem PySem.Spec PyProof.Rows L2 RT
open Sem (wp)
section
variable {prog : Program} {w : World} {A : Around} {E : Value → Shared → Prop} {s : Shared}
theorem extend_rev {it l S : Addr} {items : Array Value} {c₀ : Nat} {R : Result → Shared → Prop} (hh : A.handled = none) (hit : s.heap.IsRevIter it l ((items.size : Int) - 1)) (hl : s.heap.IsList l items) (hne : l ≠ it) (hn : items.size ≤ sizeLine)
    (hS : s.heap.get? S = some { cls := .type "list", data := .seq #[] c₀ }) (hSi : S ≠ it) (hSl : S ≠ l)
    (hR : ∀ (h' : Heap) (tk : Nat) (acc : Array Value) (c' : Nat), (∀ b o, b ≠ S → b ≠ it → s.heap.get? b = some o → h'.get? b = some o) → h'.get? S = some { cls := .type "list", dict := none, data := .seq acc c', slots := #[] } →
      ItemsOf (fun i v => items[items.size - 1 - i]? = some v) acc items.size → R (.ok (.ret .none)) { s with heap := h', toks := tk }) :
    wpAny (model prog w) A.in1 (Builtin.List.listExtendWith (.ref S) (.ref it) .none)
      (fun fin s' => match fin with | .done f => R (.ok f) s' | .again c' => c'.quiet = true ∧ codeAny (model prog w) A c' R s') (fun e s' => R (.error e) s') s := by
  have W := (Walks.listRev (prog := prog) (w := w) (A := A.in1) hh it l hne items).toS
  have hSf : S ∉ [it, l] := by simp only [List.mem_cons, List.not_mem_nil, or_false, not_or]; exact ⟨hSi, hSl⟩
  have hT : s.TypeIs (.ref it) "list_reverseiterator" := hit.typeIs
  have h1 : Builtin.List.listSameRef (.ref S) (.ref it) = false := by simp [Builtin.List.listSameRef, hSi]
  unfold Builtin.List.listExtendWith
  refine wpAny_bind (wpAny_typeOf hT ?_)
  rw [if_neg (by rw [h1]; decide)]
  refine wpAny_bind (wpAny_pyIter_revIter hit ?_)
  refine wpAny_bind (wpAny_holding ?_)
  unfold Builtin.List.listLengthHint
  refine wpAny_bind (wpAny_specialOf hT nolen_lri ?_)
  show wpAny _ A.in1 (specialOf (Value.ref it) (Str.ofString "__length_hint__") >>= _) _ _ _
  refine wpAny_bind (wpAny_specialOf hT hint_lri ?_)
  generalize hid : ("list_reverseiterator.__length_hint__" : String) = id0
  wp_delta
  rw [show splitId id0 = some ("list_reverseiterator", "__length_hint__") from by subst hid; decide +kernel]
  subst hid
  refine wpAny_bind (wpAny_isInstance (b := true) hT (by rw [isSubtype_type]; kernel_rfl) ?_)
  refine wpAny_pure ?_
  rw [if_neg (by decide)]
  have e0 : ((items.size : Nat) : Int) - 1 - ((0 : Nat) : Int) = (items.size : Int) - 1 := by omega
  refine wpAny_pure ⟨plainId_quiet PySem.F.plain_extend_loop _, codeAny_extend_loopS W hn S hSf _ items.size 0 _ _ _ rfl (Nat.zero_le _) ⟨Nat.zero_le _, by rw [e0]; exact hit, hl⟩ hS (ItemsOf.nil _) fun s' acc' c' hm hS' hacc => ?_⟩
  rw [Moved.eq_with hm]
  refine hR s'.heap s'.toks acc' c' (fun b o hb hb2 e => hm.heap b o (fun hmem => ?_) e) hS' hacc
  rcases List.mem_cons.mp hmem with e' | hmem
  · exact hb e'
  · exact hb2 (List.mem_singleton.mp hmem)
theorem list_init_rev {it l S : Addr} {items : Array Value} {R : Result → Shared → Prop} (hh : A.handled = none) (hit : s.heap.IsRevIter it l ((items.size : Int) - 1)) (hl : s.heap.IsList l items) (hne : l ≠ it) (hn : items.size ≤ sizeLine)
    (hS : s.heap.get? S = some { cls := .type "list", data := .seq #[] }) (hSi : S ≠ it) (hSl : S ≠ l)
    (hR : ∀ (h' : Heap) (tk : Nat) (acc : Array Value) (c' : Nat), (∀ b o, b ≠ S → b ≠ it → s.heap.get? b = some o → h'.get? b = some o) → h'.get? S = some { cls := .type "list", dict := none, data := .seq acc c', slots := #[] } →
      ItemsOf (fun i v => items[items.size - 1 - i]? = some v) acc items.size → R (.ok (.ret .none)) { s with heap := h', toks := tk }) :
    wpAny (model prog w) A.in1 (Builtin.«list.__init__» ⟨[.ref S, .ref it], []⟩)
      (fun fin s' => match fin with | .done f => R (.ok f) s' | .again c' => c'.quiet = true ∧ codeAny (model prog w) A c' R s') (fun e s' => R (.error e) s') s := by
  show wpAny _ _ (do let old ← Builtin.List.listItems (.ref S); Builtin.List.listUpdate (.ref S) (fun _ => #[]); letGo old.toList.reverse; Builtin.List.listExtendWith (.ref S) (.ref it) .none) _ _ s
  refine wpAny_bind ?_
  unfold Builtin.List.listItems
  refine wpAny_bind (wpAny_seqItems hS rfl (wpAny_pure ?_))
  show wpAny _ _ (updateSeq S (fun _ => #[]) >>= fun _ => letGo (#[] : Array Value).toList.reverse >>= fun _ => Builtin.List.listExtendWith (.ref S) (.ref it) .none) _ _ s
  refine wpAny_bind (wpAny_updateSeq hS rfl ?_)
  have hS₂ := Heap.get?_update_self (Obj.mapSeq (fun _ => (#[] : Array Value))) hS rfl
  have oth : ∀ b o, b ≠ S → s.heap.get? b = some o → (s.heap.update S (Obj.mapSeq (fun _ => (#[] : Array Value)))).get? b = some o :=
    fun b o hb e => (Heap.get?_update_other _ _ (Ne.symm hb)).trans e
  refine wpAny_bind (wpAny_letGo ?_)
  refine extend_rev hh (hit.at fun o e => oth _ o (Ne.symm hSi) e) (hl.at fun o e => oth _ o (Ne.symm hSl) e) hne hn hS₂ hSi hSl fun h' tk acc' c' hk hS' hacc => ?_
  exact hR h' tk acc' c' (fun b o hb hb2 e => hk b o hb hb2 (oth b o hb e)) hS' hacc
theorem call_list_rev {it l : Addr} {items : Array Value} {Q : Value → Shared → Prop} (hh : A.handled = none) (hit : s.heap.IsRevIter it l ((items.size : Int) - 1)) (hl : s.heap.IsList l items) (hne : l ≠ it) (hn : items.size ≤ sizeLine)
    (hQ : ∀ (h' : Heap) (tk : Nat) (acc : Array Value) (c' : Nat), (∀ b o, b ≠ it → s.heap.get? b = some o → h'.get? b = some o) →
      h'.get? s.heap.objs.size = some { cls := .type "list", dict := none, data := .seq acc c', slots := #[] } → ItemsOf (fun i v => items[items.size - 1 - i]? = some v) acc items.size → Q (.ref s.heap.objs.size) { s with heap := h', toks := tk }) :
    wpAny (model prog w) A (call (.type "list") [.ref it]) Q E s := by
  refine callType_codes (Q₁ := fun obj s₁ => obj = .ref s.heap.objs.size ∧ s₁ = { s with heap := s.heap.push { cls := .type "list", data := .seq #[] } }) PySem.F.called_list (PySem.F.typeCall_list_1 _) PySem.F.entry_list_init
    (code_list_new _ ⟨rfl, rfl⟩) fun obj s₁ h₁ => ?_
  obtain ⟨rfl, rfl⟩ := h₁
  have hS : (s.heap.push { cls := .type "list", data := .seq #[] }).get? s.heap.objs.size = some { cls := .type "list", data := .seq #[] } := Heap.get?_push_size _ rfl
  obtain ⟨oi, hoi, _⟩ := id hit
  obtain ⟨ol, hol, _⟩ := id hl
  refine ⟨⟨_, hS, rfl⟩, PySem.F.args_list_init_2 _ _, list_init_rev (A := A.in1) hh (hit.at fun o e => Heap.get?_push_of_some _ e) (hl.push _) hne hn hS (Nat.ne_of_gt (Heap.lt_size hoi)) (Nat.ne_of_gt (Heap.lt_size hol)) fun h' tk acc' c' hk hS' hacc => ?_⟩
  exact ⟨rfl, hQ h' tk acc' c' (fun b o hb e => hk b o (Nat.ne_of_lt (Heap.lt_size e)) hb (Heap.get?_push_of_some _ e)) hS' hacc⟩
end
section
variable {X : Cx}
/-- list(reversed(x)), x a list: a new list -/
def tListRev (K : PySem.W.Frag) (te : TE) : TE := fun σ H Q => te σ H fun v H1 => ∃ (a : Addr) (xs : List V), v = .ref a ∧ SqL K H1 a xs ∧ ∀ q, H1 q = none → Q (.ref q) (upd H1 q (.lst xs.reverse))
theorem pe_listRev {e : Expr} {te : TE} {p p2 pos pos2 : Pos} (hc : X.calm = true) (hg : Gl X "list") (hm : X.mg "list" = none) (hb : bootBuiltins "list" = some (.type "list")) (hg2 : Gl X "reversed") (hm2 : X.mg "reversed" = none) (he : PE X e te)
    (hs : starEach [e] X.env = (false, eval e X.env) :: starEach [] X.env := by rfl)
    (hs2 : starEach [.Call (.Name "reversed" p2) [e] [] pos2] X.env = (false, eval (.Call (.Name "reversed" p2) [e] [] pos2) X.env) :: starEach [] X.env := by rfl) :
    PE X (.Call (.Name "list" p) [.Call (.Name "reversed" p2) [e] [] pos2] [] pos) (tListRev X.K te) := by
  refine ⟨fun pins s σ H Q I h => ?_⟩
  refine Call_ (ld_blt I hg hm hb (PyProof.Rows.callWith_type1 (args_cons (Call_ (ld_blt I hg2 hm2 PyProof.Rows.boot_reversed (PyProof.Rows.callWith_type1 (args_cons (thn (he.run pins s σ H _ I h) fun u s1 ⟨v, H1, I1, r1, q1⟩ => args_nil ?_) hs) hs rfl))) hs2) hs2 rfl))
  obtain ⟨a, xs, ev, hq, q⟩ := q1
  subst ev
  obtain rfl : u = Value.ref a := r1
  obtain ⟨its, rv, p', hz⟩ := I1.list hq
  refine call_reversed_list p'.isList (args_nil ?_)
  have k0 : ∀ b o, s1.heap.get? b = some o → (s1.heap.push (revObj a ((its.toArray.size : Int) - 1))).get? b = some o := fun b o e => Heap.get?_push_of_some _ e
  have hlt : a < s1.heap.objs.size := by obtain ⟨o, e, _⟩ := p'.isList; exact Heap.lt_size e
  have hit : (s1.heap.push (revObj a ((its.toArray.size : Int) - 1))).IsRevIter s1.heap.objs.size a ((its.toArray.size : Int) - 1) := ⟨_, Heap.get?_push_size _ rfl, rfl, rfl⟩
  refine call_list_rev (s := { s1 with heap := s1.heap.push (revObj a ((its.toArray.size : Int) - 1)) }) (I1.ok.hd hc) hit (p'.isList.push _) (Nat.ne_of_lt hlt) (by rw [List.size_toArray, ← rv.length]; exact hz) fun h' tk acc c' hk hS hacc => ?_
  have sz : (s1.heap.push (revObj a ((its.toArray.size : Int) - 1))).objs.size = s1.heap.objs.size + 1 := Heap.size_push ..
  have keep : ∀ b o, s1.heap.get? b = some o → h'.get? b = some o := fun b o e => hk b o (Nat.ne_of_lt (Heap.lt_size e)) (k0 b o e)
  have big : s1.heap.objs.size ≤ (s1.heap.push (revObj a ((its.toArray.size : Int) - 1))).objs.size := by rw [sz]; exact Nat.le_succ _
  have rr := vals_rev rv hacc
  refine ⟨.ref (s1.heap.push (revObj a ((its.toArray.size : Int) - 1))).objs.size, _, I1.laid (t' := tk) (o := .lst xs.reverse) keep big ⟨by rw [List.length_reverse]; exact hz, acc.toList, c', rr, ?_⟩, rfl, q _ (I1.hok.fresh big)⟩
  have e : acc.toList.toArray = acc := by simp
  rw [e]
  exact hS
end
section
open HT
variable {prog : Program} {w : World} {A : Around} {E : Value → Shared → Prop} {s : Shared}
theorem adjust_rev (n : Nat) : Builtin.Slice.sliceAdjust none none (-1) (n : Int) = ((n : Int) - 1, -1) := by
  unfold Builtin.Slice.sliceAdjust
  simp
theorem places_rev (n : Nat) : Builtin.Slice.slicePlaces ((n : Int) - 1) (-1) (-1) = n := by
  unfold Builtin.Slice.slicePlaces
  simp
  omega
theorem sliceApplied_rev {sl : Addr} {vl vu vs : Value} {n : Nat} {Q : Int × Int × Nat → Shared → Prop} (hs : s.heap.IsSliceOf sl vl vu vs) (pl : IsPart vl none) (pu : IsPart vu none) (ps : IsPart vs (some (-1)))
    (h : Q ((n : Int) - 1, -1, n) s) : wpAny (model prog w) A (Builtin.Slice.sliceApplied (.ref sl) (pure (n : Int))) Q E s := by
  obtain ⟨os, hos, hcs, hds⟩ := id hs
  unfold Builtin.Slice.sliceApplied Builtin.Slice.sliceFields
  refine wpAny_bind (wpAny_bind (wpAny_field hos hds (x := vl) rfl (wpAny_bind (wpAny_field hos hds (x := vu) rfl (wpAny_bind (wpAny_field hos hds (x := vs) rfl (wpAny_pure ?_)))))))
  refine wpAny_bind (slicePart_ ps ?_)
  show wpAny _ _ (if ((-1 : Int) == 0) = true then _ else _) _ _ s
  rw [if_neg (by decide)]
  refine wpAny_bind (slicePart_ pl (wpAny_bind (slicePart_ pu (wpAny_bind (wpAny_pure ?_)))))
  show wpAny _ _ (match Builtin.Slice.sliceAdjust none none (-1) (n : Int) with | (lo, hi) => pure (lo, (-1 : Int), Builtin.Slice.slicePlaces lo hi (-1))) _ _ s
  rw [adjust_rev n]
  show wpAny _ _ (pure ((n : Int) - 1, (-1 : Int), Builtin.Slice.slicePlaces ((n : Int) - 1) (-1) (-1))) _ _ s
  rw [places_rev]
  exact wpAny_pure h
theorem pick_rev (xs : Array Value) : ((List.range xs.size).filterMap fun (m : Nat) => xs[(((xs.size : Nat) : Int) - 1 + (m : Int) * (-1)).toNat]?).toArray = xs.toList.reverse.toArray := by
  congr 1
  apply List.ext_getElem?
  intro i
  have e : (fun (m : Nat) => xs[(((xs.size : Nat) : Int) - 1 + (m : Int) * (-1)).toNat]?) = fun m => xs[xs.size - 1 - m]? := by
    funext m
    have : (((xs.size : Nat) : Int) - 1 + (m : Int) * (-1)).toNat = xs.size - 1 - m := by omega
    rw [this]
  rw [e]
  have e2 : (List.range xs.size).filterMap (fun m => xs[xs.size - 1 - m]?) = (List.range xs.size).map (fun m => xs.getD (xs.size - 1 - m) .none) := by
    have key : ∀ l : List Nat, (∀ m ∈ l, m < xs.size) → l.filterMap (fun m => xs[xs.size - 1 - m]?) = l.map fun m => xs.getD (xs.size - 1 - m) .none := by
      intro l
      induction l with
      | nil => intro _; rfl
      | cons m l ih =>
        intro h
        have hm := h m List.mem_cons_self
        have hs : xs.size - 1 - m < xs.size := by omega
        rw [List.map_cons, ← ih fun k hk => h k (List.mem_cons_of_mem _ hk), List.filterMap_cons]
        simp [Array.getD, hs]
    exact key _ fun m hm => List.mem_range.mp hm
  rw [e2, List.getElem?_map]
  by_cases hi : i < xs.size
  · rw [List.getElem?_range hi, List.getElem?_reverse (by simpa using hi)]
    have : xs.size - 1 - i < xs.size := by omega
    simp [Array.getD, this]
  · rw [List.getElem?_eq_none (by simpa using hi), List.getElem?_eq_none (by simpa using hi)]
    rfl
theorem getItem_tuple_rev {t sl : Addr} {items : Array Value} {vl vu vs : Value} {Q : Value → Shared → Prop} (ht : IsTup s.heap t items) (hs : s.heap.IsSliceOf sl vl vu vs) (pl : IsPart vl none) (pu : IsPart vu none) (ps : IsPart vs (some (-1)))
    (h : Q (.ref s.heap.objs.size) { s with heap := s.heap.push { cls := .type "tuple", data := .seq items.toList.reverse.toArray } }) (hsz : items.size ≤ sizeLine) : wpAny (model prog w) A (getItem (.ref t) (.ref sl)) Q E s := by
  have htake : sizeOk (.seq items.toList.reverse.toArray) := by
    show items.toList.reverse.toArray.size ≤ sizeLine
    simpa using hsz
  obtain ⟨os, hos, hcs, hds⟩ := id hs
  have hTs : s.TypeIs (.ref sl) "slice" := ⟨os, hos, hcs⟩
  unfold getItem
  try with_reducible refine wpAny_holding ?_
  first | refine wpAny_bind (wpAny_pure ?_) | skip
  refine wpAny_bind (wpAny_sequenceKey ht.typeIs (by decide) ?_)
  refine wpAny_bind (wpAny_callSpecial?_slot (name := Str.ofString "__getitem__") ht.typeIs PyProof.Rows.slot_tuple_getitem
    (wpAny_call_entry PyProof.Rows.slot_tuple_getitem ht.typeIs entry_tuple_getitem ?_ (args_tuple_getitem _ _)))
  show wpAny _ _ (Builtin.Tuple.tupleItemsOf (.ref t) >>= _) _ _ s
  refine wpAny_bind (tupleItemsOf_ ht ?_)
  refine wpAny_bind (wpAny_typeOf hTs ?_)
  rw [if_pos (by decide)]
  refine wpAny_bind (sliceApplied_rev hs pl pu ps ?_)
  have hno : ¬ (((((items.size : Nat) : Int) - 1) == 0 && (-1 : Int) == 1 && (items.size == items.size)) = true) := by
    intro q
    rw [Bool.and_eq_true, Bool.and_eq_true] at q
    exact absurd q.1.2 (by decide)
  show wpAny _ _ (if ((((items.size : Nat) : Int) - 1) == 0 && (-1 : Int) == 1 && (items.size == items.size)) = true then _ else _) _ _ s
  rw [if_neg hno, pick_rev]
  first
    | exact wpAny_bind (m := Builtin.Tuple.tupleExact _) (wpAny_newObj_type (wpAny_pure ⟨_, rfl, wpAny_pure h⟩) htake)
    | exact wpAny_bind (m := Builtin.Tuple.tupleExact _) (wpAny_newObj_type (wpAny_bind (wpAny_pure (wpAny_pure ⟨_, rfl, wpAny_pure h⟩))) htake)
    | exact wpAny_bind (wpAny_bind (m := Builtin.Tuple.tupleExact _) (wpAny_newObj_type (wpAny_pure (wpAny_pure ⟨_, rfl, wpAny_pure h⟩)) htake))
    | exact wpAny_bind (wpAny_bind (m := Builtin.Tuple.tupleExact _) (wpAny_newObj_type (wpAny_pure ⟨_, rfl, wpAny_pure h⟩) htake))
end
section
variable {X : Cx}
/-- t[::-1], t a tuple or a list -/
def tRevA (K : PySem.W.Frag) (te : TE) : TE := fun σ H Q => te σ H fun x H1 => ∃ a xs, x = .ref a ∧ ((SqT K H1 a xs ∧ ∀ p, H1 p = none → Q (.ref p) (upd H1 p (.tup xs.reverse))) ∨ (SqL K H1 a xs ∧ ∀ p, H1 p = none → Q (.ref p) (upd H1 p (.lst xs.reverse))))
theorem pe_revA {e : Expr} {te : TE} {k : Nat} {p1 p2 p3 pos : Pos} (he : PE X e te) : PE X (.Subscript e (.Slice none none (some (.UnaryOp .USub (.Constant (.int 1) k p1) p2)) p3) pos) (tRevA X.K te) := by
  refine ⟨fun pins s σ H Q I h => ?_⟩
  refine Subscript_ (thn (he.run pins s σ H _ I h) fun v s1 ⟨x, H1, I1, r1, q1⟩ => ?_)
  obtain ⟨a, xs, ex, hx⟩ := q1
  subst ex
  cases r1
  have hst : PO X (some (.UnaryOp .USub (.Constant (.int 1) k p1) p2)) (tPart (tUn (rU fun i => .int (-i)) (tC (.int 1)))) := po_some (pe_un un_neg pe_int)
  refine wpAny_Slice (thn (po_none.run pins s1 σ H1 (fun o H2 => o = none ∧ H2 = H1) I1 ⟨rfl, rfl⟩) fun vl s2 ⟨l, H2, I2, pl, el, e2⟩ => ?_)
  subst el e2
  refine thn (po_none.run pins s2 σ H2 (fun o H3 => o = none ∧ H3 = H2) I2 ⟨rfl, rfl⟩) fun vu s3 ⟨u, H3, I3, pu, eu, e3⟩ => ?_
  subst eu e3
  refine thn (hst.run pins s3 σ H3 (fun o H4 => o = some (-1) ∧ H4 = H3) I3 ⟨1, rfl, -1, rfl, rfl, rfl⟩) fun vs s4 ⟨o, H4, I4, ps, eo, e4⟩ => ?_
  subst eo e4
  have I5 : Inv X pins σ H4 { s4 with heap := s4.heap.push { cls := .type "slice", data := .fields #[vl, vu, vs] } } := I4.kept (t' := s4.toks) fun b ob q => Heap.get?_push_of_some _ q
  show wpAny (model X.prog X.w) X.A (subscriptTail e (.Slice none none (some (.UnaryOp .USub (.Constant (.int 1) k p1) p2)) p3) (.ref a) (.ref s4.heap.objs.size)) (EP X pins σ Q) X.xe { s4 with heap := s4.heap.push { cls := .type "slice", data := .fields #[vl, vu, vs] } }
  rcases hx with ⟨hx, q⟩ | ⟨hx, q⟩
  · obtain ⟨its, r, ht, hz⟩ := I5.tuple hx
    have hlen := r.length
    refine tail_any (ops := [.ref a, .ref s4.heap.objs.size]) ht.typeIs (PyProof.Rows.slot_tuple_getitem.lookup) ?_ (by with_unfolding_all rfl)
    refine getItem_tuple_rev ht (Heap.IsSliceOf.new _ vl vu vs) pl pu ps ?_ (by rw [List.size_toArray]; omega)
    refine ⟨.ref _, _, I5.laid (t' := s4.toks) (o := .tup xs.reverse) (fun b ob q => Heap.get?_push_of_some _ q) (Nat.le_refl _) ?_, rfl, q _ (I5.hok.fresh (Nat.le_refl _))⟩
    exact ⟨by rw [List.length_reverse]; exact hz, _, r.reverse, IsTup.new _ _⟩
  · obtain ⟨its, r, ht, hz⟩ := I5.list hx
    have hlen := r.length
    refine tail_any (ops := [.ref a, .ref s4.heap.objs.size]) ht.isList.typeIs (PySem.slot_list_getitem.lookup) ?_ (by with_unfolding_all rfl)
    refine wpAny_getItem_list_slice ht.isList (Heap.IsSliceOf.new _ vl vu vs) pl pu ps (by decide) ?_ (by rw [List.size_toArray]; omega)
    rw [PySem.W.krv_pick]
    refine ⟨.ref _, _, I5.laid (t' := s4.toks) (o := .lst xs.reverse) (fun b ob q => Heap.get?_push_of_some _ q) (Nat.le_refl _) ?_, rfl, q _ (I5.hok.fresh (Nat.le_refl _))⟩
    exact ⟨by rw [List.length_reverse]; exact hz, _, 0, r.reverse, Heap.get?_push_size _ rfl⟩
end
end DG

set_option Elab.async false
set_option linter.all false
set_option maxRecDepth 100000
set_option maxHeartbeats 2000000
namespace DL
open PySem PySem.Spec PySem.SeqAt PySem.W L2 DG PyProof.Rows
open GxR (TabB TabG Tabbed)
section
variable {X : Cx} {T : Addr → Prop} {Wx : WX} {a b c o e f : Expr} {es : List Expr} {fa fb fc fo : Ef} {fs : Ev → Wd → R (List D)} {pos apos cpos p1 p2 p3 p pos2 tpos px py pz pt : Pos} {x y z : Str}

/-! ### d.get(k, z) -/
def eGet2 (fo fk fz : Ef) : Ef := fun ρ w => (fo ρ w).bind fun d w1 => match d with
  | .dict kds => (fk ρ w1).bind fun k w2 => (fz ρ w2).bind fun z w3 => match dkey k with
    | some k => .ok ((valD kds k).getD z) w3
    | none => .bad
  | _ => .bad
theorem se_get2 (hu : X.A.units + 100 < cLine) (ho : SB (gx X T) Wx X o fo) (he : SE (gx X T) Wx X e fa) (hf : SE (gx X T) Wx X f fb) (m : M2 X o "get" apos e f cpos) : SE (gx X T) Wx X (.Call (.Attribute o "get" apos) [e, f] [] cpos) (eGet2 fo fa fb) :=
  PE.imp (pe_dget2 (by omega) ho he hf m) fun σ H Q ⟨F, ad, ρ, w, a0, p⟩ => un_in a0 p fun F1 H1 w1 x dx a1 g1 rx p1 => by
    cases dx with
    | dict kds =>
      obtain ⟨a, kvs, rfl, hr, hk⟩ := rx.dict a1.hp
      refine ⟨a, rfl, .inl ⟨kvs, hr⟩, unE_in a1 p1 fun F2 H2 w2 y dy a2 g2 ry p2 => unE_in a2 p2 fun F3 H3 w3 z dz a3 g3 rz p3 => ?_⟩
      cases ek : dkey dy with
      | none => simp only [ek] at p3; exact p3.elim
      | some k =>
        simp only [ek] at p3
        obtain ⟨a', r, e', g, h1, h2⟩ := dd_get a3.hp ((rx.grow a1.hp g2).grow a2.hp g3) (Rep.b (Rep.mono g3.mono ry)) ek
        cases e'
        refine ⟨r, g, ?_⟩
        cases q : valD kds k with
        | none =>
          rw [q] at p3
          rw [h2 q]
          exact p3 F3 H3 a3.hp Grow.refl z rz
        | some d =>
          rw [q] at p3
          obtain ⟨u, rfl, ru⟩ := h1 d q
          exact p3 F3 H3 a3.hp Grow.refl u ru
    | _ => exact p1.elim

/-! ### what is walked: a dict's keys, pairs; enumerate -/
def fstD (kds : List (D × D)) : List D := kds.map (·.1)
def pairsD (kds : List (D × D)) : List D := kds.map fun p => .tuple [p.1, p.2]
theorem DKp.at {K : PySem.W.Frag} {F : Hp} : ∀ {kvs : List (Key × V)} {kds : List (D × D)} (i : Nat) {k : Key} {v : V}, DKp K F kvs kds → kvs[i]? = some (k, v) → ∃ d, kds[i]? = some (keyD k, d) ∧ Rep K F v d
  | _, _, _, _, _, .nil, e => by simp at e
  | _, _, 0, _, _, .cons r _, e => by simp at e; obtain ⟨rfl, rfl⟩ := e; exact ⟨_, rfl, r⟩
  | _, _, i + 1, _, _, .cons _ t, e => by
    obtain ⟨d, h1, h2⟩ := DKp.at i t (by simpa using e)
    exact ⟨d, by simpa using h1, h2⟩
theorem rep_key {K : PySem.W.Frag} {F : Hp} (k : Key) : Rep K F (kV k) (keyD k) := by
  cases k with
  | inl i => exact .int i
  | inr x => exact .str x
theorem it_keys {G : Gx} {ad : Option Addr} {F : Hp} {d : Addr} {ob : Obj} {kvs : List (Key × V)} {kds : List (D × D)} (e : F d = some (.frz ob (.dK kvs))) (r : DKp G.K F kvs kds) : ItOk G ad F (Itk d ob kvs) (fstD kds) := fun F2 H2 w2 h2 m => by
  have q : H2 d = some (.frz ob (.dK kvs)) := h2.sub _ _ (m _ _ e)
  have hl : (fstD kds).length = kvs.length := by rw [fstD, List.length_map, r.length]
  rw [hl]
  refine ⟨fun i hi => ⟨q, hi⟩, ⟨q, Nat.le_refl _⟩, fun i x H3 hi y => ?_⟩
  obtain ⟨rfl, k, v, e1, rfl⟩ := y
  obtain ⟨d, h3, _⟩ := r.at i e1
  exact ⟨F2, keyD k, by rw [fstD, List.getElem?_map, h3]; rfl, h2, Grow.refl, rep_key k⟩
/-- a new pair comes -/
theorem newPair {G : Gx} {F H : Hp} {ad : Option Addr} {w : Wd} {q : Addr} {u v : V} {du dv : D} (h : HeapOk G F ad H w) (hq : H q = none) (ru : Rep G.K F u du) (rv : Rep G.K F v dv) :
    HeapOk G (upd F q (.tup [u, v])) ad (upd H q (.tup [u, v])) w ∧ Grow G ad F H (upd F q (.tup [u, v])) (upd H q (.tup [u, v])) ∧ Rep G.K (upd F q (.tup [u, v])) (.ref q) (.tuple [du, dv]) := by
  obtain ⟨h1, g1⟩ := h.newF (o := .tup [u, v]) hq
  exact ⟨h1, g1, .tup (SqT.of upd_same) (.cons (Rep.mono g1.mono ru) (.cons (Rep.mono g1.mono rv) .nil))⟩
theorem it_items {G : Gx} {ad : Option Addr} {F : Hp} {d : Addr} {ob : Obj} {kvs : List (Key × V)} {kds : List (D × D)} (e : F d = some (.frz ob (.dK kvs))) (r : DKp G.K F kvs kds) : ItOk G ad F (Iti d ob kvs) (pairsD kds) := fun F2 H2 w2 h2 m => by
  have q : H2 d = some (.frz ob (.dK kvs)) := h2.sub _ _ (m _ _ e)
  have hl : (pairsD kds).length = kvs.length := by rw [pairsD, List.length_map, r.length]
  rw [hl]
  refine ⟨fun i hi => ⟨q, hi⟩, ⟨q, Nat.le_refl _⟩, fun i x H3 hi y => ?_⟩
  obtain ⟨q, k, v, e1, rfl, hq, rfl⟩ := y
  obtain ⟨d, h3, rd⟩ := r.at i e1
  obtain ⟨z1, z2, z3⟩ := newPair h2 hq (rep_key k) (Rep.mono m rd)
  exact ⟨_, _, by rw [pairsD, List.getElem?_map, h3]; rfl, z1, z2, z3⟩
def enumD (ds : List D) : List D := ds.mapIdx fun i d => .tuple [.int (i : Nat), d]
theorem it_enum {G : Gx} {ad : Option Addr} {F : Hp} {a : Addr} {vs : List V} {ds : List D} (e : F a = some (.lst vs)) (r : RepL G.K F vs ds) : ItOk G ad F (Ite G.K a) (enumD ds) := fun F2 H2 w2 h2 m => by
  have q : SqL G.K H2 a vs := SqL.of (h2.sub _ _ (m _ _ e))
  have hl : (enumD ds).length = vs.length := by rw [enumD, List.length_mapIdx, r.length]
  rw [hl]
  refine ⟨fun i hi => ⟨vs, vs[i], q, by simp [hi]⟩, ⟨vs, q, Nat.le_refl _⟩, fun i x H3 hi y => ?_⟩
  obtain ⟨q1, u, rfl, hq, rfl, hu⟩ := y
  obtain ⟨d, h3, rd⟩ := r.at i (hu vs q)
  obtain ⟨z1, z2, z3⟩ := newPair h2 hq (.int (i : Nat)) (Rep.mono m rd)
  exact ⟨_, _, by rw [enumD, List.getElem?_mapIdx, h3]; rfl, z1, z2, z3⟩
theorem it_enumT {G : Gx} {ad : Option Addr} {F : Hp} {a : Addr} {vs : List V} {ds : List D} (e : SqT G.K F a vs) (r : RepL G.K F vs ds) : ItOk G ad F (ItEt G.K a) (enumD ds) := fun F2 H2 w2 h2 m => by
  have q : SqT G.K H2 a vs := sqT_mono h2.sub (sqT_mono m e)
  have hl : (enumD ds).length = vs.length := by rw [enumD, List.length_mapIdx, r.length]
  rw [hl]
  refine ⟨fun i hi => ⟨vs, vs[i], q, by simp [hi]⟩, ⟨vs, q, Nat.le_refl _⟩, fun i x H3 hi y => ?_⟩
  obtain ⟨q1, u, rfl, hq, rfl, hu⟩ := y
  obtain ⟨d, h3, rd⟩ := r.at i (hu vs q)
  obtain ⟨z1, z2, z3⟩ := newPair h2 hq (.int (i : Nat)) (Rep.mono m rd)
  exact ⟨_, _, by rw [enumD, List.getElem?_mapIdx, h3]; rfl, z1, z2, z3⟩
def iDk (fa : Ef) : Ev → Wd → R (List D) := fun ρ w => (fa ρ w).bind fun d w1 => match d with
  | .dict kds => .ok (fstD kds) w1
  | _ => .bad
theorem si_keys {tg : Expr} (ha : SE (gx X T) Wx X a fa) : SI (gx X T) Wx X tg a (iDk fa) := PI.imp (pi_keys ha) fun σ H Q ⟨F, ad, ρ, w, a0, p⟩ => unE_in a0 p fun F1 H1 w1 x dx a1 _ rx p1 => by
  cases rx with
  | dK e r => exact ⟨_, _, rfl, .inl ⟨_, a1.hp.sub _ _ e, p1 F1 H1 a1.hp Grow.refl _ (it_keys e (DKp.of r))⟩⟩
  | _ => exact p1.elim
def iEnm (fa : Ef) : Ev → Wd → R (List D) := fun ρ w => (fa ρ w).bind fun d w1 => match d with
  | .list ds => .ok (enumD ds) w1
  | .tuple ds => .ok (enumD ds) w1
  | _ => .bad
theorem si_enum {elts : List Expr} {kk : Nat} (hg : Gl X "enumerate") (hm : X.mg "enumerate" = none) (ha : SE (gx X T) Wx X a fa) (hs : starEach [a] X.env = (false, eval a X.env) :: starEach [] X.env := by rfl) :
    SI (gx X T) Wx X (.Tuple elts kk tpos) (.Call (.Name "enumerate" p) [a] [] pos) (iEnm fa) :=
  PI.imp (pi_enumA hg hm ha hs) fun σ H Q ⟨F, ad, ρ, w, a0, p⟩ => unE_in a0 p fun F1 H1 w1 x dx a1 _ rx p1 => by
    cases rx with
    | lst e r => exact ⟨_, rfl, .inl ⟨_, SqL.of (a1.hp.sub _ _ e), p1 F1 H1 a1.hp Grow.refl _ (it_enum e r)⟩⟩
    | tup e r => exact ⟨_, rfl, .inr ⟨_, sqT_mono a1.hp.sub e, p1 F1 H1 a1.hp Grow.refl _ (it_enumT e r)⟩⟩
    | _ => exact p1.elim

/-! ### starred items of a display -/
def lStar (fe : Ef) (fs : Ev → Wd → R (List D)) : Ev → Wd → R (List D) := fun ρ w => (fe ρ w).bind fun d w1 => match seqOf d with
  | some xs => (fs ρ w1).bind fun ds w2 => .ok (xs ++ ds) w2
  | none => .bad
theorem sl_star (he : SE (gx X T) Wx X e fa) (hs : SL (gx X T) Wx X es fs) (hst : starEach (.Starred e p :: es) X.env = (true, eval e X.env) :: starEach es X.env := by rfl) : SL (gx X T) Wx X (.Starred e p :: es) (lStar fa fs) :=
  PA.imp (StX.pa_star he hs hst) fun σ H Q ⟨F, ad, ρ, w, a0, p⟩ => unE_in a0 p fun F1 H1 w1 x dx a1 g1 rx p1 => by
    cases rx with
    | lst e r => exact ⟨_, _, rfl, .inr (SqL.of (a1.hp.sub _ _ e)), F1, ad, ρ, w1, a1, (p1.bind a1.hp).imp fun ds w2 F2 H2 h2 g2 p2 vs r2 => p2 F2 H2 h2 Grow.refl _ ((r.mono g2.mono).append r2)⟩
    | tup e r => exact ⟨_, _, rfl, .inl (sqT_mono a1.hp.sub e), F1, ad, ρ, w1, a1, (p1.bind a1.hp).imp fun ds w2 F2 H2 h2 g2 p2 vs r2 => p2 F2 H2 h2 Grow.refl _ ((r.mono g2.mono).append r2)⟩
    | _ => exact p1.elim

/-! ### the other way round -/
def dRev : D → Option D
  | .list ds => some (.list ds.reverse)
  | .tuple ds => some (.tuple ds.reverse)
  | _ => none
def eRev (fa : Ef) : Ef := fun ρ w => (fa ρ w).bind fun d w1 => R.of w1 (dRev d)
theorem se_rev {k : Nat} (ha : SB (gx X T) Wx X a fa) : SE (gx X T) Wx X (.Subscript a (.Slice none none (some (.UnaryOp .USub (.Constant (.int 1) k p1) p2)) p3) pos) (eRev fa) :=
  PE.imp (pe_revA ha) fun σ H Q ⟨F, ad, ρ, w, a0, p⟩ => un_in a0 p fun F1 H1 w1 x dx a1 g1 rx p1 => by
    cases dx with
    | list ds =>
      obtain ⟨a, vs, rfl, ha, r⟩ := rx.list a1.hp
      refine ⟨a, vs, rfl, .inr ⟨SqL.of ha, fun q hq => ?_⟩⟩
      obtain ⟨h2, g2⟩ := a1.hp.newF (o := .lst vs.reverse) hq
      exact p1 _ _ h2 g2 _ (.lst upd_same (r.reverse.mono g2.mono))
    | tuple ds =>
      obtain ⟨a, vs, rfl, ha, r⟩ := rx.tup a1.hp
      refine ⟨a, vs, rfl, .inl ⟨ha, fun q hq => ?_⟩⟩
      obtain ⟨h2, g2⟩ := a1.hp.newF (o := .tup vs.reverse) hq
      exact p1 _ _ h2 g2 _ (.tup (SqT.of upd_same) (r.reverse.mono g2.mono))
    | _ => exact p1.elim
def oRev (fa : Ef) : Ev → Wd → R (List D) := fun ρ w => (fa ρ w).bind fun d w1 => match d with
  | .list ds => .ok ds.reverse w1
  | _ => .bad
theorem so_rev (hc : X.calm = true) (hg : Gl X "list") (hm : X.mg "list" = none) (hb : bootBuiltins "list" = some (.type "list")) (hg2 : Gl X "reversed") (hm2 : X.mg "reversed" = none) (ha : SB (gx X T) Wx X a fa)
    (hs : starEach [a] X.env = (false, eval a X.env) :: starEach [] X.env := by rfl)
    (hs2 : starEach [.Call (.Name "reversed" p2) [a] [] pos2] X.env = (false, eval (.Call (.Name "reversed" p2) [a] [] pos2) X.env) :: starEach [] X.env := by rfl) :
    SO (gx X T) Wx X (.Call (.Name "list" p) [.Call (.Name "reversed" p2) [a] [] pos2] [] pos) (oRev fa) :=
  PE.imp (pe_listRev hc hg hm hb hg2 hm2 ha hs hs2) fun σ H Q ⟨F, ad, ρ, w, a0, p⟩ => un_in a0 p fun F1 H1 w1 x dx a1 g1 rx p1 => by
    cases dx with
    | list ds =>
      obtain ⟨a, vs, rfl, ha, r⟩ := rx.list a1.hp
      refine ⟨a, vs, rfl, SqL.of ha, fun q hq => ?_⟩
      obtain ⟨h2, g2⟩ := a1.hp.new (o := .lst vs.reverse) hq
      obtain ⟨n1, n2⟩ := fresh_of a0.hp a1.hp g1 hq
      exact p1 _ _ h2 g2 q vs.reverse n1 upd_same n2 r.reverse
    | _ => exact p1.elim

/-! ### the draws, the script -/
def eDrLen (i : Nat) : Ef := fun ρ w => match ρ[i]? with
  | some (some .dr) => .ok (.int w.length) w
  | some (some (.sc ns)) => .ok (.int ns.length) w
  | _ => .bad
theorem se_drLen {i : Nat} (hg : Gl X "len") (hm : X.mg "len" = none) (hb : bootBuiltins "len" = some (.builtin "len")) (hv : PE X a (tVar i)) (he : starEach [a] X.env = (false, eval a X.env) :: starEach [] X.env := by rfl) (hpl : (backTo pos (starEach [] X.env)).any (·.1) = false := by rfl) :
    SE (gx X T) Wx X (.Call (.Name "len" p) [a] [] pos) (eDrLen i) :=
  PE.imp (pe_callB call_len_seq hg hm hb (pa_cons hv pa_nil he) (by decide) (by decide) he hpl) fun σ H Q ⟨F, ad, ρ, w, a0, p⟩ => by
    unfold eDrLen at p
    split at p
    · rename_i e0
      obtain ⟨v, h1, a, ea, rfl⟩ := a0.en.sl i _ e0
      obtain ⟨vs, h2, h3⟩ := a0.hp.dr a ea
      exact ⟨_, h1, a, vs, rfl, .inl (SqL.of h2), by rw [h3.length]; exact p F H a0.hp Grow.refl _ (.int _)⟩
    · rename_i ns e0
      obtain ⟨v, h1, a, rfl, h2⟩ := a0.en.sl i _ e0
      exact ⟨_, h1, a, _, rfl, .inl (sqL_mono a0.hp.sub h2), by rw [List.length_map]; exact p F H a0.hp Grow.refl _ (.int _)⟩
    · exact p.elim
def eDrPop (i : Nat) : Ef := fun ρ w => match ρ[i]? with
  | some (some .dr) => match w[w.length - 1]? with
    | some d => .ok d w.dropLast
    | none => .bad
  | _ => .bad
theorem se_drPop {i : Nat} (hv : PE X o (tVar i)) (hbase : attributeBase o "pop" X.env (eval o X.env) = eval o X.env := by rfl) (hline : (apos.endLine == cpos.line) = true := by rfl) :
    SE (gx X T) Wx X (.Call (.Attribute o "pop" apos) [] [] cpos) (eDrPop i) :=
  PE.imp (pe_bm0 PySem.F.plainAttrs_list PySem.F.slot_list_pop PySem.F.type_list_pop mt_pop hv hbase hline) fun σ H Q ⟨F, ad, ρ, w, a0, p⟩ => by
    unfold eDrPop at p
    split at p
    case h_2 => exact p.elim
    rename_i e0
    split at p
    case h_2 => exact p.elim
    rename_i d ed
    obtain ⟨v, h1, a, ea, rfl⟩ := a0.en.sl i _ e0
    obtain ⟨vs, h2, h3⟩ := a0.hp.dr a ea
    obtain ⟨y, h4, ry⟩ := h3.get _ ed
    rw [← h3.length] at h4
    refine ⟨_, h1, .inl ⟨rfl, vs, SqL.of h2⟩, a, vs, y, rfl, rfl, h2, h4, ?_⟩
    refine p F _ ⟨fun b o q => ?_, a0.hp.noT, a0.hp.noD, fun b q => ?_, fun b q => ?_⟩ ⟨fun _ _ q => q, fun b o q n1 n2 => ?_, fun _ _ q => q⟩ y ry
    · rw [upd_ne fun z => by subst z; exact a0.hp.noD b (by rw [q]; exact fun z => by cases z) ea]; exact a0.hp.sub b o q
    · obtain ⟨ps, z1, z2⟩ := a0.hp.tab b q
      exact ⟨ps, by rw [upd_ne fun z => by subst z; rw [h2] at z1; cases z1]; exact z1, z2⟩
    · rw [ea] at q
      cases q
      exact ⟨vs.dropLast, upd_same, h3.dropLast⟩
    · rw [upd_ne fun z => n2 (by rw [z]; exact ea)]; exact q
def eScIx (i : Nat) (fb : Ef) : Ef := fun ρ w => match ρ[i]? with
  | some (some (.sc ns)) => (fb ρ w).bind fun d w1 => match d with
    | .int j => R.of w1 ((L2.atI ns j).map .int)
    | _ => .bad
  | _ => .bad
theorem atI_map {α β : Type} (f : α → β) (xs : List α) (i : Int) : L2.atI (xs.map f) i = (L2.atI xs i).map f := by
  unfold L2.atI
  rw [List.length_map]
  cases ixN xs.length i with
  | none => rfl
  | some j => show (xs.map f)[j]? = (xs[j]?).map f; rw [List.getElem?_map]
theorem se_scIx {i : Nat} (hv : PE X a (tVar i)) (hb : SE (gx X T) Wx X b fb) (hs : PlainIx b := by exact fun _ _ => rfl) : SE (gx X T) Wx X (.Subscript a b pos) (eScIx i fb) :=
  PE.imp (pe_ix ix_list hv hb hs) fun σ H Q ⟨F, ad, ρ, w, a0, p⟩ => by
    unfold eScIx at p
    split at p
    case h_2 => exact p.elim
    rename_i ns e0
    obtain ⟨v, h1, a, rfl, h2⟩ := a0.en.sl i _ e0
    refine ⟨_, h1, unE_in a0 p fun F1 H1 w1 x dx a1 g1 rx p1 => ?_⟩
    cases dx with
    | int j =>
      cases rx
      cases q : L2.atI ns j with
      | none => simp only [q] at p1; exact p1.elim
      | some n =>
        simp only [q] at p1
        exact ⟨a, _, j, .int n, rfl, rfl, sqL_mono a1.hp.sub (sqL_mono g1.mono h2), by rw [atI_map, q]; rfl, p1 F1 H1 a1.hp Grow.refl _ (.int n)⟩
    | _ => exact p1.elim
def iSc (i : Nat) : Ev → Wd → R (List D) := fun ρ w => match ρ[i]? with
  | some (some (.sc ns)) => .ok (ns.map .int) w
  | _ => .bad
theorem it_sc {G : Gx} {ad : Option Addr} {F : Hp} {a : Addr} {ns : List Int} (e : SqL G.K F a (ns.map V.int)) : ItOk G ad F (Itl G.K a) (ns.map .int) := fun F2 H2 w2 h2 m => by
  have q : SqL G.K H2 a (ns.map V.int) := sqL_mono h2.sub (sqL_mono m e)
  have w := walk_list (K := G.K) (a := a) (xs := ns.map V.int)
  have hl : (ns.map (PyData.int)).length = (ns.map V.int).length := by simp
  rw [hl]
  refine ⟨fun i hi => w.goes i H2 hi q, w.stops H2 q, fun i x H3 hi y => ?_⟩
  obtain ⟨e1, e2⟩ := w.yields i H2 x H3 hi q y
  rw [e1]
  have e2 : (ns.map V.int)[i]? = some x := e2
  rw [List.getElem?_map] at e2
  cases q2 : ns[i]? with
  | none => rw [q2] at e2; cases e2
  | some n =>
    rw [q2] at e2
    cases e2
    exact ⟨F2, .int n, by rw [List.getElem?_map, q2]; rfl, h2, Grow.refl, .int n⟩
theorem si_sc {i : Nat} {tg : Expr} (hv : PE X a (tVar i)) : SI (gx X T) Wx X tg a (iSc i) := PI.imp (pi_list hv) fun σ H Q ⟨F, ad, ρ, w, a0, p⟩ => by
  unfold iSc at p
  split at p
  · rename_i ns e0
    obtain ⟨v, h1, a, rfl, h2⟩ := a0.en.sl i _ e0
    exact ⟨_, h1, a, rfl, ⟨_, sqL_mono a0.hp.sub h2⟩, p F H a0.hp Grow.refl _ (it_sc h2)⟩
  · exact p.elim
end
end DL

set_option Elab.async false
set_option linter.all false
set_option maxRecDepth 100000
set_option maxHeartbeats 4000000
namespace DL
open PySem PySem.Spec PySem.SeqAt PySem.W L2 DG PyProof.Rows
open GxR (TabB TabG Tabbed)

/-! ### comprehensions of two clauses -/
def lc2L (tgt : Tg) (tt : Ev → Wd → R Bool) (fi1 : Ev → Wd → R (List D)) (tgt1 : Tg) (tt1 : Ev → Wd → R Bool) (fe : Ef) (vs1 : List Nat) (ρ : Ev) : List D → Wd → R (List D)
  | [], w => .ok [] w
  | d :: ds, w => match tgt d ρ with
    | none => .bad
    | some ρ1 => (tt ρ1 w).bind fun b w1 => if b = true then (fi1 ρ1 w1).bind fun es w2 => (lcL tgt1 tt1 fe (wipeE ρ1 vs1) es w2).bind fun ys w3 => (lc2L tgt tt fi1 tgt1 tt1 fe vs1 ρ ds w3).bind fun zs w4 => .ok (ys ++ zs) w4
      else lc2L tgt tt fi1 tgt1 tt1 fe vs1 ρ ds w1
/-- what was gathered ahead, and the length's bound -/
def fit (acc : List D) (r : R (List D)) : R (List D) := (r.bind fun ys w => if (acc ++ ys).length ≤ sizeLine then .ok (acc ++ ys) w else .bad).calm
def oLc2 (fi : Ev → Wd → R (List D)) (tgt : Tg) (tt : Ev → Wd → R Bool) (fi1 : Ev → Wd → R (List D)) (tgt1 : Tg) (tt1 : Ev → Wd → R Bool) (fe : Ef) (vs vs1 : List Nat) : Ev → Wd → R (List D) := fun ρ w =>
  (fi ρ w).bind fun ds w1 => fit [] (lc2L tgt tt fi1 tgt1 tt1 fe vs1 (wipeE ρ vs) ds w1)
theorem fit_cons {acc : List D} {y : D} {r : R (List D)} : fit acc (r.bind fun ys w => .ok (y :: ys) w) = fit (acc ++ [y]) r := by
  cases r with
  | ok ys w =>
    show R.calm (if (acc ++ y :: ys).length ≤ sizeLine then _ else _) = R.calm (if (acc ++ [y] ++ ys).length ≤ sizeLine then _ else _)
    have e : acc ++ y :: ys = acc ++ [y] ++ ys := by simp
    rw [e]
  | exc c w => rfl
  | bad => rfl
theorem fit_ok {G : Gx} {Wx : WX} {σ : L2.St} {F H : Hp} {ad : Option Addr} {P : List D → Wd → Hp → Hp → Prop} {acc : List D} {r : R (List D)} (h : Post G Wx σ F ad H P (fit acc r)) : acc.length ≤ sizeLine := by
  cases r with
  | ok ys w =>
    have h : Post G Wx σ F ad H P (R.calm (if (acc ++ ys).length ≤ sizeLine then .ok (acc ++ ys) w else .bad)) := h
    split at h
    · rename_i hl
      rw [List.length_append] at hl
      omega
    · exact h.elim
  | exc c w => exact h.elim
  | bad => exact h.elim
/-- the list that grows at L -/
structure Gath (G : Gx) (ad : Option Addr) (F1 H1 : Hp) (L : Addr) (F H : Hp) (w : Wd) (acc : List D) : Prop where
  hp : HeapOk G F ad H w
  gr : Grow G ad F1 H1 F H
  nF : F L = none
  ls : ∃ us, H L = some (.lst us) ∧ RepL G.K F us acc
theorem Gath.step {G : Gx} {ad : Option Addr} {F1 H1 F H F' H' : Hp} {L : Addr} {w w' : Wd} {acc : List D} (nT : ¬ G.T L) (nD : ad ≠ some L) (g : Gath G ad F1 H1 L F H w acc) (h : HeapOk G F' ad H' w') (g' : Grow G ad F H F' H') : Gath G ad F1 H1 L F' H' w' acc := by
  obtain ⟨us, h1, h2⟩ := g.ls
  exact ⟨h, g.gr.then g.hp g', g'.nf L (by rw [h1]; exact fun z => by cases z) g.nF, us, g'.keep L _ h1 nT nD, h2.mono g'.mono⟩
theorem Gath.push {G : Gx} {ad : Option Addr} {F1 H1 F H : Hp} {L : Addr} {w : Wd} {acc : List D} {v : V} {y : D} {us : List V} (nT : ¬ G.T L) (nD : ad ≠ some L) (n1 : H1 L = none) (g : Gath G ad F1 H1 L F H w acc) (e : H L = some (.lst us)) (r : Rep G.K F v y) :
    Gath G ad F1 H1 L F (upd H L (.lst (us ++ [v]))) w (acc ++ [y]) := by
  obtain ⟨us', h1, h2⟩ := g.ls
  rw [e] at h1
  cases h1
  refine ⟨⟨fun b o q => ?_, g.hp.noT, g.hp.noD, fun b q => ?_, fun b q => ?_⟩, ⟨g.gr.mono, fun b o q n1' n2 => ?_, g.gr.nf⟩, g.nF, _, upd_same, h2.snoc r⟩
  · rw [upd_ne (ne_of_none q g.nF)]; exact g.hp.sub b o q
  · obtain ⟨ps, e, t⟩ := g.hp.tab b q
    exact ⟨ps, by rw [upd_ne fun z => by subst z; exact nT q]; exact e, t⟩
  · obtain ⟨us, e, r⟩ := g.hp.dr b q
    exact ⟨us, by rw [upd_ne fun z => by subst z; exact nD q]; exact e, r⟩
  · rw [upd_ne (ne_of_none q n1)]; exact g.gr.keep b o q n1' n2
theorem EnvOk.re {G : Gx} {F F' H H' : Hp} {ad : Option Addr} {σ σ2 : L2.St} {ρ ρ2 : Ev} (en : EnvOk G F ad σ2 H ρ2) (o : OwnSub σ σ2 ρ ρ2) (b : EnvOk G F' ad σ H' ρ) (m : ∀ a o, F a = some o → F' a = some o) : EnvOk G F' ad σ2 H' ρ2 where
  len := en.len
  sl := fun i s e => by
    obtain ⟨v, h1, h2⟩ := en.sl i s e
    cases ho : s.own with
    | true =>
      obtain ⟨q1, q2⟩ := o i s e ho
      obtain ⟨v', h3, h4⟩ := b.sl i s q1
      rw [q2] at h1
      rw [h3] at h1
      cases h1
      exact ⟨_, by rw [q2]; exact h3, h4⟩
    | false =>
      refine ⟨v, h1, ?_⟩
      cases s with
      | v d => exact Rep.mono m h2
      | dr => exact h2
      | sc ns => let ⟨a, z, q⟩ := h2; exact ⟨a, z, sqL_mono m q⟩
      | ol ds => cases ho
      | od ks => cases ho
  dist := en.dist
section
variable {X : Cx} {T : Addr → Prop} {Wx : WX} {elt tg iter tg1 iter1 : Expr} {ifs ifs1 : List Expr} {scope : Scope} {own : List (Str × Nat)} {pos spos : Pos} {fi fi1 : Ev → Wd → R (List D)} {tgt tgt1 : Tg} {ix ix1 : List Nat} {tt tt1 : Ev → Wd → R Bool} {fe : Ef}
theorem lc2_in {vs vs1 : List Nat} {σ : L2.St} {H : Hp} {Q : VK} (hix : ∀ i ∈ ix, i ∈ vs) (hix1 : ∀ i ∈ ix1, i ∈ vs1) (h : tO (gx X T) Wx (oLc2 fi tgt tt fi1 tgt1 tt1 fe vs vs1) σ H Q) :
    tLc2 (tI (gx X T) Wx fi) (tG (gx X T) ix tgt) (tT (gx X T) W0 tt) (tI (gx X T) W0 fi1) (tG (gx X T) ix1 tgt1) (tT (gx X T) W0 tt1) (tD (gx X T) W0 fe) vs vs1 σ H Q := by
  obtain ⟨F, ad, ρ, w, a0, p⟩ := h
  refine ⟨F, ad, ρ, w, a0, (p.bind a0.hp).imp fun ds w1 F1 H1 h1 g1 p1 J hJ L hL => ?_⟩
  have nT : ¬ T L := fun z => h1.tN L z hL
  have nD : ad ≠ some L := fun z => h1.dN L z hL
  obtain ⟨hH, hF1⟩ := fresh_of a0.hp h1 g1 hL
  obtain ⟨h2, g2⟩ := h1.new (o := .lst []) hL
  have a1 := a0.grow h1 g1
  -- the continuation
  generalize hP : (fun (ds : List D) (x : Wd) (F' H' : Hp) => ∀ (a : Addr) (vs : List V), H a = none → H' a = some (.lst vs) → F' a = none → RepL X.K F' vs ds → Q (.ref a) H') = P at p1
  refine ⟨fun i m H' => ∃ F2 w2 acc, Gath (gx X T) ad F1 H1 L F2 H' w2 acc ∧ m = ds.length - i ∧ i ≤ ds.length ∧ Post (gx X T) Wx σ F1 ad H1 P (fit acc (lc2L tgt tt fi1 tgt1 tt1 fe vs1 (wipeE ρ vs) (ds.drop i) w2)), ?_, fun i m H' hW => ?_⟩
  · exact ⟨ds.length, F1, w1, [], ⟨h2, g2, hF1, [], upd_same, .nil⟩, rfl, Nat.zero_le _, p1⟩
  · obtain ⟨F2, w2, acc, G2, hm, hi, p3⟩ := hW
    obtain ⟨k1, k2, k3⟩ := hJ F2 H' w2 G2.hp G2.gr.mono
    by_cases hlt : i < ds.length
    · refine .inr ⟨k1 i hlt, fun H4 => ∃ F4 w4 acc, Gath (gx X T) ad F1 H1 L F4 H4 w4 acc ∧ Post (gx X T) Wx σ F1 ad H1 P (fit acc (lc2L tgt tt fi1 tgt1 tt1 fe vs1 (wipeE ρ vs) (ds.drop (i + 1)) w4)), fun H4 z => ?_, fun x H4 y => ?_⟩
      · obtain ⟨F4, w4, acc, z1, z2⟩ := z
        exact ⟨ds.length - (i + 1), by omega, F4, w4, acc, z1, rfl, hlt, z2⟩
      · obtain ⟨F4, d, e1, h4, g4, r4⟩ := k3 i x H4 hlt y
        rw [drop_cons e1] at p3
        unfold lc2L at p3
        have G4 := G2.step nT nD h4 g4
        have a4 : At (gx X T) F4 ad (wipe σ vs) H4 (wipeE ρ vs) w2 := ⟨h4, (a1.en.grow a1.hp G4.gr).wipe⟩
        cases et : tgt d (wipeE ρ vs) with
        | none => simp only [et] at p3; exact p3.elim
        | some ρ1 =>
          simp only [et] at p3
          refine ⟨F4, ad, wipeE ρ vs, w2, d, ρ1, a4, r4, et, fun σ2 en2 own2 os => ⟨?_, ?_⟩⟩
          · have e := wipe_eq (σ := wipe σ vs) (vs := vs) os.1 fun j hj => os.2 j fun z => hj (hix j z)
            rw [e]; exact wipe_wipe
          · refine ⟨F4, ad, ρ1, w2, ⟨h4, en2⟩, ?_⟩
            cases eb : tt ρ1 w2 with
            | bad => simp only [eb] at p3; exact p3.elim
            | exc c w => simp only [eb] at p3; exact p3.elim
            | ok b w5 =>
              simp only [eb] at p3
              intro F5 H5 h5 g5
              have G5 := G4.step nT nD h5 g5
              have en5 := en2.grow h4 g5
              cases b with
              | false =>
                show (if _ then _ else _)
                rw [if_neg Bool.false_ne_true]
                exact ⟨F5, w5, acc, G5, p3⟩
              | true =>
                show (if _ then _ else _)
                rw [if_pos rfl]
                have p3 : Post (gx X T) Wx σ F1 ad H1 P (fit acc ((fi1 ρ1 w5).bind fun es w2 => (lcL tgt1 tt1 fe (wipeE ρ1 vs1) es w2).bind fun ys w3 => (lc2L tgt tt fi1 tgt1 tt1 fe vs1 (wipeE ρ vs) (ds.drop (i + 1)) w3).bind fun zs w4 => .ok (ys ++ zs) w4)) := p3
                refine ⟨F5, ad, ρ1, w5, ⟨h5, en5⟩, ?_⟩
                cases ei : fi1 ρ1 w5 with
                | bad => simp only [ei] at p3; exact p3.elim
                | exc c w => simp only [ei] at p3; exact p3.elim
                | ok es w6 =>
                  simp only [ei] at p3
                  intro F6 H6 h6 g6 J1 hJ1
                  have G6 := G5.step nT nD h6 g6
                  have en6 := en5.grow h5 g6
                  refine ⟨fun j k H7 => ∃ F7 w7 acc, Gath (gx X T) ad F1 H1 L F7 H7 w7 acc ∧ (∀ a o, F6 a = some o → F7 a = some o) ∧ k = es.length - j ∧ j ≤ es.length ∧ Post (gx X T) Wx σ F1 ad H1 P (fit acc ((lcL tgt1 tt1 fe (wipeE ρ1 vs1) (es.drop j) w7).bind fun ys w3 => (lc2L tgt tt fi1 tgt1 tt1 fe vs1 (wipeE ρ vs) (ds.drop (i + 1)) w3).bind fun zs w4 => .ok (ys ++ zs) w4)),
                    ⟨es.length, F6, w6, acc, G6, fun _ _ e => e, rfl, Nat.zero_le _, p3⟩, fun j k H7 hW1 => ?_⟩
                  obtain ⟨F7, w7, acc, G7, m7, hk, hj, p7⟩ := hW1
                  obtain ⟨q1, q2, q3⟩ := hJ1 F7 H7 w7 G7.hp m7
                  by_cases hjt : j < es.length
                  · refine .inr ⟨q1 j hjt, fun H8 => ∃ F8 w8 acc, Gath (gx X T) ad F1 H1 L F8 H8 w8 acc ∧ (∀ a o, F6 a = some o → F8 a = some o) ∧ Post (gx X T) Wx σ F1 ad H1 P (fit acc ((lcL tgt1 tt1 fe (wipeE ρ1 vs1) (es.drop (j + 1)) w8).bind fun ys w3 => (lc2L tgt tt fi1 tgt1 tt1 fe vs1 (wipeE ρ vs) (ds.drop (i + 1)) w3).bind fun zs w4 => .ok (ys ++ zs) w4)), fun H8 z => ?_, fun x1 H8 y8 => ?_⟩
                    · obtain ⟨F8, w8, acc, z1, z2, z3⟩ := z
                      exact ⟨es.length - (j + 1), by omega, F8, w8, acc, z1, z2, rfl, hjt, z3⟩
                    · obtain ⟨F8, d1, e8, h8, g8, r8⟩ := q3 j x1 H8 hjt y8
                      rw [drop_cons e8] at p7
                      unfold lcL at p7
                      have G8 := G7.step nT nD h8 g8
                      have m8 : ∀ a o, F6 a = some o → F8 a = some o := fun a o e => g8.mono a o (m7 a o e)
                      have m48 : ∀ a o, F4 a = some o → F8 a = some o := fun a o e => m8 a o (g6.mono a o (g5.mono a o e))
                      have en8 : EnvOk (gx X T) F8 ad σ2 H8 ρ1 := en2.re own2 (a1.en.grow a1.hp G8.gr).wipe m48
                      cases et1 : tgt1 d1 (wipeE ρ1 vs1) with
                      | none => simp only [et1] at p7; exact p7.elim
                      | some ρ2 =>
                        simp only [et1] at p7
                        refine ⟨F8, ad, wipeE ρ1 vs1, w7, d1, ρ2, ⟨h8, en8.wipe⟩, r8, et1, fun σ3 en3 own3 os3 => ⟨?_, ?_⟩⟩
                        · have e := wipe_eq (σ := wipe σ2 vs1) (vs := vs1) os3.1 fun j hj => os3.2 j fun z => hj (hix1 j z)
                          rw [e]; exact wipe_wipe
                        · refine ⟨F8, ad, ρ2, w7, ⟨h8, en3⟩, ?_⟩
                          cases eb1 : tt1 ρ2 w7 with
                          | bad => simp only [eb1] at p7; exact p7.elim
                          | exc c w => simp only [eb1] at p7; exact p7.elim
                          | ok b1 w9 =>
                            simp only [eb1] at p7
                            intro F9 H9 h9 g9
                            have G9 := G8.step nT nD h9 g9
                            cases b1 with
                            | false =>
                              show (if _ then _ else _)
                              rw [if_neg Bool.false_ne_true]
                              exact ⟨F9, w9, acc, G9, fun a o e => g9.mono a o (m8 a o e), p7⟩
                            | true =>
                              show (if _ then _ else _)
                              rw [if_pos rfl]
                              have p7 : Post (gx X T) Wx σ F1 ad H1 P (fit acc (((fe ρ2 w9).bind fun y w2 => (lcL tgt1 tt1 fe (wipeE ρ1 vs1) (es.drop (j + 1)) w2).bind fun ys w3 => .ok (y :: ys) w3).bind fun ys w3 => (lc2L tgt tt fi1 tgt1 tt1 fe vs1 (wipeE ρ vs) (ds.drop (i + 1)) w3).bind fun zs w4 => .ok (ys ++ zs) w4)) := p7
                              refine ⟨F9, ad, ρ2, w9, ⟨h9, en3.grow h8 g9⟩, ?_⟩
                              cases ef : fe ρ2 w9 with
                              | bad => simp only [ef] at p7; exact p7.elim
                              | exc c w => simp only [ef] at p7; exact p7.elim
                              | ok yd w10 =>
                                simp only [ef] at p7
                                intro F10 H10 h10 g10 v rv
                                have G10 := G9.step nT nD h10 g10
                                have e : ∀ r : R (List D), (((R.ok yd w10 : R D).bind fun y w2 => (lcL tgt1 tt1 fe (wipeE ρ1 vs1) (es.drop (j + 1)) w2).bind fun ys w3 => .ok (y :: ys) w3).bind fun ys w3 => (lc2L tgt tt fi1 tgt1 tt1 fe vs1 (wipeE ρ vs) (ds.drop (i + 1)) w3).bind fun zs w4 => R.ok (ys ++ zs) w4) =
                                    ((lcL tgt1 tt1 fe (wipeE ρ1 vs1) (es.drop (j + 1)) w10).bind fun ys w3 => (lc2L tgt tt fi1 tgt1 tt1 fe vs1 (wipeE ρ vs) (ds.drop (i + 1)) w3).bind fun zs w4 => .ok (ys ++ zs) w4).bind fun ys w => .ok (yd :: ys) w := fun r => by
                                  show (((lcL tgt1 tt1 fe (wipeE ρ1 vs1) (es.drop (j + 1)) w10).bind fun ys w3 => .ok (yd :: ys) w3).bind fun ys w3 => (lc2L tgt tt fi1 tgt1 tt1 fe vs1 (wipeE ρ vs) (ds.drop (i + 1)) w3).bind fun zs w4 => R.ok (ys ++ zs) w4) = _
                                  cases lcL tgt1 tt1 fe (wipeE ρ1 vs1) (es.drop (j + 1)) w10 with
                                  | bad => rfl
                                  | exc c w => rfl
                                  | ok ys w3 =>
                                    show ((lc2L tgt tt fi1 tgt1 tt1 fe vs1 (wipeE ρ vs) (ds.drop (i + 1)) w3).bind fun zs w4 => R.ok (yd :: ys ++ zs) w4) = ((lc2L tgt tt fi1 tgt1 tt1 fe vs1 (wipeE ρ vs) (ds.drop (i + 1)) w3).bind fun zs w4 => R.ok (ys ++ zs) w4).bind fun ys w => .ok (yd :: ys) w
                                    cases lc2L tgt tt fi1 tgt1 tt1 fe vs1 (wipeE ρ vs) (ds.drop (i + 1)) w3 <;> rfl
                                rw [e (.bad), fit_cons] at p7
                                obtain ⟨us, z1, z2⟩ := G10.ls
                                have hl := fit_ok p7
                                rw [List.length_append] at hl
                                refine ⟨us, z1, by rw [z2.length]; simp at hl; omega, F10, w10, acc ++ [yd], G10.push nT nD hL z1 rv, fun a o e => g10.mono a o (g9.mono a o (m8 a o e)), p7⟩
                  · have e : j = es.length := by omega
                    subst e
                    rw [List.drop_length] at p7
                    refine .inl ⟨q2, F7, w7, acc, G7, ?_⟩
                    have e : ((lcL tgt1 tt1 fe (wipeE ρ1 vs1) [] w7).bind fun ys w3 => (lc2L tgt tt fi1 tgt1 tt1 fe vs1 (wipeE ρ vs) (ds.drop (i + 1)) w3).bind fun zs w4 => R.ok (ys ++ zs) w4) = lc2L tgt tt fi1 tgt1 tt1 fe vs1 (wipeE ρ vs) (ds.drop (i + 1)) w7 := by
                      show ((lc2L tgt tt fi1 tgt1 tt1 fe vs1 (wipeE ρ vs) (ds.drop (i + 1)) w7).bind fun zs w4 => R.ok ([] ++ zs) w4) = _
                      cases lc2L tgt tt fi1 tgt1 tt1 fe vs1 (wipeE ρ vs) (ds.drop (i + 1)) w7 <;> rfl
                    rw [e] at p7
                    exact p7
    · have e : i = ds.length := by omega
      subst e
      rw [List.drop_length] at p3
      have p3 : Post (gx X T) Wx σ F1 ad H1 P (fit acc (.ok [] w2)) := p3
      refine .inl ⟨k2, ?_⟩
      have hl := fit_ok p3
      have e : fit acc (.ok [] w2) = .ok acc w2 := by
        show R.calm (if (acc ++ []).length ≤ sizeLine then R.ok (acc ++ []) w2 else .bad) = _
        rw [List.append_nil, if_pos hl]
        rfl
      rw [e] at p3
      obtain ⟨us, z1, z2⟩ := G2.ls
      have := p3 F2 H' G2.hp G2.gr
      rw [← hP] at this
      exact this L us hH z1 G2.nF z2
theorem so_lc2 (hc : X.calm = true) (hN : X.N.Nodup) (hi : SI (gx X T) Wx X tg iter fi) (ok : BlkOk X.N X.env.scope scope own) (hix : ∀ i ∈ ix, i ∈ own.map (·.2)) (hix1 : ∀ i ∈ ix1, i ∈ ix1) (hv : ∀ i ∈ ix1, i ∈ own.map (·.2))
    (hg : ∀ (s : Shared) (H : Hp) (C : Addr) (cl : List (Str × Addr)) (fp : List Addr), SG (gx X T) (X.blk s H scope (compEnvC scope cl C X.env) fp) tg ix tgt)
    (ht : ∀ (s : Shared) (H : Hp) (C : Addr) (cl : List (Str × Addr)) (fp : List Addr), PTs (X.blk s H scope (compEnvC scope cl C X.env) fp) ifs (tT (gx X T) W0 tt))
    (hi1 : ∀ (s : Shared) (H : Hp) (C : Addr) (cl : List (Str × Addr)) (fp : List Addr), SI (gx X T) W0 (X.blk s H scope (compEnvC scope cl C X.env) fp) tg1 iter1 fi1)
    (hg1 : ∀ (s : Shared) (H : Hp) (C : Addr) (cl : List (Str × Addr)) (fp : List Addr), SG (gx X T) (X.blk s H scope (compEnvC scope cl C X.env) fp) tg1 ix1 tgt1)
    (ht1 : ∀ (s : Shared) (H : Hp) (C : Addr) (cl : List (Str × Addr)) (fp : List Addr), PTs (X.blk s H scope (compEnvC scope cl C X.env) fp) ifs1 (tT (gx X T) W0 tt1))
    (he : ∀ (s : Shared) (H : Hp) (C : Addr) (cl : List (Str × Addr)) (fp : List Addr), SE (gx X T) W0 (X.blk s H scope (compEnvC scope cl C X.env) fp) elt fe) (hs : ∀ x, foldedSetIterable iter X.env x = pure x := by intro _; rfl) (hs1 : ∀ env x, foldedSetIterable iter1 env x = pure x := by intro _ _; rfl) :
    SO (gx X T) Wx X (.ListComp elt [⟨tg, iter, ifs, 0⟩, ⟨tg1, iter1, ifs1, 0⟩] scope pos) (oLc2 fi tgt tt fi1 tgt1 tt1 fe (own.map (·.2)) ix1) :=
  PE.imp (pe_lc2 hc hN hi ok hv hg ht hi1 hg1 ht1 he hs hs1) fun σ H Q h => lc2_in hix hix1 h
theorem ss_setLc2 {i : Nat} {y : Str} {py : Pos} (hc : X.calm = true) (hN : X.N.Nodup) (hy : X.N[i]? = some y) (hyl : X.env.scope.names.lookup y = some .local)
    (hsw : swapsWith (.ListComp elt [⟨tg, iter, ifs, 0⟩, ⟨tg1, iter1, ifs1, 0⟩] scope pos) (some (.Name y py)) spos.line X.env = pure true) (hi : SI (gx X T) Wx X tg iter fi) (ok : BlkOk X.N X.env.scope scope own) (hix : ∀ i ∈ ix, i ∈ own.map (·.2)) (hix1 : ∀ i ∈ ix1, i ∈ ix1) (hv : ∀ i ∈ ix1, i ∈ own.map (·.2))
    (hg : ∀ (s : Shared) (H : Hp) (C : Addr) (cl : List (Str × Addr)) (fp : List Addr), SG (gx X T) (X.blk s H scope (compEnvC scope cl C X.env) fp) tg ix tgt)
    (ht : ∀ (s : Shared) (H : Hp) (C : Addr) (cl : List (Str × Addr)) (fp : List Addr), PTs (X.blk s H scope (compEnvC scope cl C X.env) fp) ifs (tT (gx X T) W0 tt))
    (hi1 : ∀ (s : Shared) (H : Hp) (C : Addr) (cl : List (Str × Addr)) (fp : List Addr), SI (gx X T) W0 (X.blk s H scope (compEnvC scope cl C X.env) fp) tg1 iter1 fi1)
    (hg1 : ∀ (s : Shared) (H : Hp) (C : Addr) (cl : List (Str × Addr)) (fp : List Addr), SG (gx X T) (X.blk s H scope (compEnvC scope cl C X.env) fp) tg1 ix1 tgt1)
    (ht1 : ∀ (s : Shared) (H : Hp) (C : Addr) (cl : List (Str × Addr)) (fp : List Addr), PTs (X.blk s H scope (compEnvC scope cl C X.env) fp) ifs1 (tT (gx X T) W0 tt1))
    (he : ∀ (s : Shared) (H : Hp) (C : Addr) (cl : List (Str × Addr)) (fp : List Addr), SE (gx X T) W0 (X.blk s H scope (compEnvC scope cl C X.env) fp) elt fe) (hs : ∀ x, foldedSetIterable iter X.env x = pure x := by intro _; rfl) (hs1 : ∀ env x, foldedSetIterable iter1 env x = pure x := by intro _ _; rfl) :
    SS (gx X T) Wx X (.Assign [.Name y py] (.ListComp elt [⟨tg, iter, ifs, 0⟩, ⟨tg1, iter1, ifs1, 0⟩] scope pos) spos) (sOwn (oLc2 fi tgt tt fi1 tgt1 tt1 fe (own.map (·.2)) ix1) i) :=
  PS.imp (ps_setLc2 hc hN hy hyl hsw hi ok hv hg ht hi1 hg1 ht1 he hs hs1) fun Dn σ H h => by
    have z := own_in h
    exact lc2_in hix hix1 z
end
end DL

set_option Elab.async false
set_option linter.all false
set_option maxRecDepth 100000
set_option maxHeartbeats 4000000
namespace DL
open PySem PySem.Spec PySem.SeqAt PySem.W L2 DG PyProof.Rows
open GxR (TabB TabG Tabbed)

/-! ### raise, and the except clause that tells a text by the error's class -/
/-- an own class of errors below ValueError -/
structure ExD (K : PySem.W.Frag) (mg : Str → Option Value) (x : Str) (C : Addr) (B newId initId : String) (bmB : List Value) : Prop where
  gm : mg x = some (.ref C)
  fc : ExcBaseFacts B newId initId bmB
  q : PySem.W.excIn K C bmB newId = true
  kp : PySem.W.keepIn K (.ref C) = true
  sb : PySem.W.subIn K (.ref C) (.type "BaseException") = some true
  ty : PySem.W.typeIn K (.ref C) = some (.type "type")
def sRaise (x : Str) : Sf := fun _ w => .exc x w
section
variable {X : Cx} {T : Addr → Prop} {Wx : WX} {x m : Str} {C : Addr} {B newId initId : String} {bmB : List Value} {p p2 pos pos2 : Pos} {j : Nat}
theorem ss_raise (e : ExD X.K X.mg x C B newId initId bmB) (hc : X.calm = true) (tk : Takes X Wx) (hg : Gl X x := by rfl) (hdb : (x == ("__debug__" : Str)) = false := by decide) :
    SS (gx X T) Wx X (.Raise (some (.Call (.Name x p) [.Constant (.str m) j p2] [] pos)) none pos2) (sRaise x) :=
  PS.imp (ps_raise hc tk (pmk_own e.fc e.q e.gm e.kp (raises_own e.sb e.ty) hg hdb)) fun Dn σ H ⟨F0, H0, F, ad, ρ, w, a0, p⟩ => by
    obtain ⟨C', e1, z⟩ := p
    have e1 : X.mg x = some (.ref C') := e1
    rw [e.gm] at e1
    cases e1
    exact z σ F H a0.hp a0.gr
end
/-- try: .. except c0 as e: return [s0, s1][int(isinstance(e, c1))]; only errors of the class c1 come, below c0 -/
def sTryIs (f : Sf) (c1 : Str) (s : Str) : Sf := fun ρ w => match f ρ w with
  | .exc c w => if c = c1 then .rt (.str s) w else .bad
  | r => r
section
variable {X : Cx} {T : Addr → Prop} {Wx : WX}
/-- the name of the error in the suite -/
theorem pe_exv {Y : Cx} {a : Addr} {i : Nat} {x : Str} {pos : Pos} (h : PE Y (.Name x pos) (tVar i)) (hi : i < Y.N.length) : PE Y (.Name x pos) (fun σ H Q => (i < σ.length → σ[i]? = some (some (.ref a))) ∧ Q (.ref a) H) :=
  ⟨fun pins s σ H Q I q => h.run pins s σ H Q I ⟨.ref a, q.1 (by rw [I.len]; exact hi), q.2⟩⟩
theorem ss_tryIs {x x1 n s0 s1 : Str} {i : Nat} {C0 C1 : Addr} {B newId initId : String} {bmB : List Value} {body : List Stmt} {fb : Sf} {np pos pos' p1 p2 p3 p4 p5 p6 p7 p8 p9 p10 p11 : Pos} {k1 k2 : Nat}
    (e1 : ExD X.K X.mg x1 C1 B newId initId bmB) (ec : ExcC X.K C1) (hk : PySem.W.kitOne X.K (.ref C1) (.ref C1) = some true) (hex : PySem.W.exmOne X.K (.ref C1) (.ref C0) = some true)
    (hs : X.stack = X.env :: X.outer) (hf : X.env.frame = some X.env.locals) (hN : X.N.Nodup) (hi : X.N[i]? = some n) (hln : X.env.kindOf n = some .local) (hc : Names X x (.ref C0)) (tk : Takes X Wx)
    (hgI : Gl X "isinstance") (hmI : X.mg "isinstance" = none) (hbI : bootBuiltins "isinstance" = some (.builtin "isinstance")) (hgi : Gl X "int") (hmi : X.mg "int" = none) (hbi : bootBuiltins "int" = some (.type "int")) (hg1 : Gl X x1) (hdn : (n == ("__debug__" : Str)) = false) (hdc : (n == ("__classdict__" : Str)) = false) (hd1 : (x1 == ("__debug__" : Str)) = false)
    (hb : ∀ (W : WX) (pn : List (Addr × Obj)) (xe : Value → Shared → Prop), Takes (X.tr pn xe) W → PassesOwn (model X.prog X.w) X.A X.env xe → SSs (gx X T) W (X.tr pn xe) body fb) :
    SS (gx X T) Wx X (.Try body [.ExceptHandler (some (.Name x np)) (some n) [.Return (some (.Subscript (.List [.Constant (.str s0) k1 p1, .Constant (.str s1) k2 p2] p3) (.Call (.Name "int" p4) [.Call (.Name "isinstance" p5) [.Name n p6, .Name x1 p7] [] p8] [] p9) p10)) p11] pos'] [] [] pos) (sTryIs fb x1 s1) := by
  have lt : i < X.N.length := (List.getElem?_eq_some_iff.mp hi).1
  refine PS.imp (ps_try_as (tb := fun W => tS (gx X T) W fb) (ts := fun a cls d => fun D σ H => cls = .ref C1 ∧ d = none ∧ (i < σ.length → σ[i]? = some (some (.ref a))) ∧ ∀ p, H p = none → D.rt (.str s1) (upd H p (.lst [.str s0, .str s1]))) (Wout := Wx) hs hf hN hi hln hc tk hb
    (fun a oe cls d pn hz hv => ?_)) fun Dn σ H ⟨F0, H0, F, ad, ρ, w, a0, p⟩ => ⟨F0, H0, F, ad, ρ, w, a0, ?_⟩
  · refine ⟨fun pins s σ H D I q => ?_⟩
    obtain ⟨rfl, rfl, hσ, q⟩ := q
    have ev : PE (X.suite a ((a, oe) :: pn)) (.Name n p6) (fun σ H Q => (i < σ.length → σ[i]? = some (some (.ref a))) ∧ Q (.ref a) H) := pe_exv (pe_var hi (.inl hln) hdn hdc) lt
    have h1 : PE (X.suite a ((a, oe) :: pn)) (.Call (.Name "isinstance" p5) [.Name n p6, .Name x1 p7] [] p8) _ := pe_callB (call_isE ec hz hv) hgI hmI hbI (pa_cons ev (pa_cons (pe_glob hg1 e1.gm (v := .ref C1) rfl hd1) pa_nil rfl) rfl) (by decide) (by decide) rfl rfl
    have h2 : PE (X.suite a ((a, oe) :: pn)) (.Call (.Name "int" p4) [.Call (.Name "isinstance" p5) [.Name n p6, .Name x1 p7] [] p8] [] p9) _ := pe_callTy call_int1 hgi hmi hbi (pa_cons h1 pa_nil rfl) (by decide) (by decide) rfl rfl
    have h3 : PE (X.suite a ((a, oe) :: pn)) (.Subscript (.List [.Constant (.str s0) k1 p1, .Constant (.str s1) k2 p2] p3) (.Call (.Name "int" p4) [.Call (.Name "isinstance" p5) [.Name n p6, .Name x1 p7] [] p8] [] p9) p10) _ :=
      pe_ix ix_list (pe_lst (pa_cons pe_str (pa_cons pe_str pa_nil rfl) rfl)) h2 (fun _ _ => rfl)
    refine (pss_one (ps_ret h3)).run pins s σ H D I ?_
    refine ⟨by show 2 ≤ sizeLine; decide, fun p hp => ?_⟩
    refine ⟨hσ, .ref C1, .ref C1, true, rfl, fun u hu => hu, hk, .inr ⟨true, rfl, p, [.str s0, .str s1], 1, .str s1, rfl, rfl, SqL.of upd_same, rfl, q p hp⟩⟩
  · unfold sTryIs at p
    cases r : fb ρ w with
    | exc c w1 =>
      rw [r] at p
      have p5 : PostS (gx X T) Wx F0 H0 ad Dn (if c = x1 then .rt (.str s1) w1 else .bad) := p
      have hcx : c = x1 := by
        by_cases h : c = x1
        · exact h
        · rw [if_neg h] at p5; exact p5.elim
      rw [if_pos hcx] at p5
      refine ⟨C1, by rw [hcx]; exact e1.gm, fun σ' F' H' h' g' => ⟨true, hex, fun _ a ha => ⟨rfl, rfl, fun hl => ?_, fun q hq => ?_⟩, fun z => by cases z⟩⟩
      · rw [List.length_set] at hl
        exact List.getElem?_set_self hl
      · obtain ⟨h2, g2⟩ := h'.new (o := .lst [.str s0, .str s1]) hq
        exact p5 _ F' _ h2 (g'.then h' g2) (.str s1)
    | nx ρ1 w1 => rw [r] at p; exact p
    | rt d w1 => rw [r] at p; exact p
    | ro d w1 => rw [r] at p; exact p
    | bk ρ1 w1 => rw [r] at p; exact p
    | ct ρ1 w1 => rw [r] at p; exact p
    | bad => rw [r] at p; exact p.elim
end
end DL

set_option Elab.async false
set_option linter.all false
set_option maxRecDepth 100000
set_option maxHeartbeats 4000000
namespace DL
open PySem PySem.Spec PySem.SeqAt PySem.W L2 DG PyProof.Rows
open GxR (TabB TabG Tabbed)

/-! ### a, b = x, y -/
section
variable {X : Cx} {T : Addr → Prop} {Wx : WX} {a b c : Expr} {fs : Ev → Wd → R (List D)} {x y z : Str} {px py pz pt pos : Pos}
def sPar (i j : Nat) (fs : Ev → Wd → R (List D)) : Sf := fun ρ w => bindS (fs ρ w) fun ds w1 => match ds with
  | [d, e] => if i < ρ.length ∧ j < ρ.length then .nx ((ρ.set i (some (.v d))).set j (some (.v e))) w1 else .bad
  | _ => .bad
theorem OwnSub.refl' {σ : L2.St} {ρ : Ev} : OwnSub σ σ ρ ρ := fun _ _ e _ => ⟨e, rfl⟩
theorem ss_par {i j : Nat} {kt : Nat} {k2 : Nat} {pt2 : Pos} (hc : X.calm = true) (hN : X.N.Nodup) (hi : X.N[i]? = some x) (hj : X.N[j]? = some y) (hij : i ≠ j)
    (hx : X.env.scope.names.lookup x = some .local) (hy : X.env.scope.names.lookup y = some .local) (ha : SL (gx X T) Wx X [a, b] fs)
    (hw : swappedStores [.Tuple [.Name x px, .Name y py] kt pt] (.Tuple [a, b] k2 pt2) X.env = pure (some [x, y]))
    (hs : swapsWithSole [.Tuple [.Name x px, .Name y py] kt pt] (.Tuple [a, b] k2 pt2) pos.line X.env = pure false := by rfl) :
    SS (gx X T) Wx X (.Assign [.Tuple [.Name x px, .Name y py] kt pt] (.Tuple [a, b] k2 pt2) pos) (sPar i j fs) :=
  PS.imp (ps_par hc hN hi hj hij hx hy ha hw hs) fun Dn σ H ⟨F0, H0, F, ad, ρ, w, a0, p⟩ => ⟨F, ad, ρ, w, a0.at, (expr_post a0 p).imp fun ds w1 F1 H1 h1 g1 q vs r => by
    obtain ⟨a1, p1⟩ := q
    cases r with
    | nil => exact p1.elim
    | cons r1 r =>
      cases r with
      | nil => exact p1.elim
      | cons r2 r =>
        cases r with
        | cons _ _ => exact p1.elim
        | nil =>
          rename_i d _ e
          have p1 : PostS (gx X T) Wx F0 H0 ad Dn (if i < ρ.length ∧ j < ρ.length then .nx ((ρ.set i (some (.v _))).set j (some (.v _))) w1 else .bad) := p1
          split at p1
          · rename_i hl
            obtain ⟨e1, o1⟩ := a1.en.setV r1 hl.1
            obtain ⟨e2, o2⟩ := e1.setV r2 (by rw [List.length_set]; exact hl.2)
            exact ⟨_, _, rfl, p1 _ F1 H1 (a1.env e2 (o1.trans o2))⟩
          · exact p1.elim⟩
def sPar3 (i j l : Nat) (fs : Ev → Wd → R (List D)) : Sf := fun ρ w => bindS (fs ρ w) fun ds w1 => match ds with
  | [d, e, f] => if (i < ρ.length ∧ j < ρ.length) ∧ l < ρ.length then .nx (((ρ.set i (some (.v d))).set j (some (.v e))).set l (some (.v f))) w1 else .bad
  | _ => .bad
theorem ss_par3 {i j l : Nat} {kt : Nat} {k2 : Nat} {pt2 : Pos} (hc : X.calm = true) (hN : X.N.Nodup) (hi : X.N[i]? = some x) (hj : X.N[j]? = some y) (hl : X.N[l]? = some z) (hij : i ≠ j) (hil : i ≠ l) (hjl : j ≠ l)
    (hx : X.env.scope.names.lookup x = some .local) (hy : X.env.scope.names.lookup y = some .local) (hz : X.env.scope.names.lookup z = some .local) (ha : SL (gx X T) Wx X [a, b, c] fs)
    (hw : swappedStores [.Tuple [.Name x px, .Name y py, .Name z pz] kt pt] (.Tuple [a, b, c] k2 pt2) X.env = pure (some [x, y, z]))
    (hs : swapsWithSole [.Tuple [.Name x px, .Name y py, .Name z pz] kt pt] (.Tuple [a, b, c] k2 pt2) pos.line X.env = pure false := by rfl) :
    SS (gx X T) Wx X (.Assign [.Tuple [.Name x px, .Name y py, .Name z pz] kt pt] (.Tuple [a, b, c] k2 pt2) pos) (sPar3 i j l fs) :=
  PS.imp (ps_par3 hc hN hi hj hl hij hil hjl hx hy hz ha hw hs) fun Dn σ H ⟨F0, H0, F, ad, ρ, w, a0, p⟩ => ⟨F, ad, ρ, w, a0.at, (expr_post a0 p).imp fun ds w1 F1 H1 h1 g1 q vs r => by
    obtain ⟨a1, p1⟩ := q
    cases r with
    | nil => exact p1.elim
    | cons r1 r =>
      cases r with
      | nil => exact p1.elim
      | cons r2 r =>
        cases r with
        | nil => exact p1.elim
        | cons r3 r =>
          cases r with
          | cons _ _ => exact p1.elim
          | nil =>
            have p1 : PostS (gx X T) Wx F0 H0 ad Dn (if (i < ρ.length ∧ j < ρ.length) ∧ l < ρ.length then .nx (((ρ.set i (some (.v _))).set j (some (.v _))).set l (some (.v _))) w1 else .bad) := p1
            split at p1
            · rename_i hl
              obtain ⟨e1, o1⟩ := a1.en.setV r1 hl.1.1
              obtain ⟨e2, o2⟩ := e1.setV r2 (by rw [List.length_set]; exact hl.1.2)
              obtain ⟨e3, o3⟩ := e2.setV r3 (by rw [List.length_set, List.length_set]; exact hl.2)
              exact ⟨_, _, _, rfl, p1 _ F1 H1 (a1.env e3 ((o1.trans o2).trans o3))⟩
            · exact p1.elim⟩
end

/-! ### the law itself -/
/-- what is asked of the law's plain meaning: the draws come of the script, then the rest says True -/
def LawTrue (i N : Nat) (fo : Ev → Wd → R (List D)) (rest : Sf) (ns : List Int) : Prop :=
  ∃ ds w1 w2, fo (ent 1 N [.sc ns]) [] = .ok ds w1 ∧ rest ((ent 1 N [.sc ns]).set i (some .dr)) ds = .rt (.bool true) w2
def spLaw (G : Gx) (Φ : List Int → Prop) : Sp := fun vs H Q _ => ∃ a ns, vs = [.ref a] ∧ SqL G.K H a (ns.map V.int) ∧ (∀ b, G.T b → TabG H b) ∧ Φ ns ∧ ∀ H', Q (.bl true) H'
section
variable {P : Program} {w : World} {K : PySem.W.Frag} {mg : Str → Option Value} {base : Heap} {T : Addr → Prop} {k : Nat}
theorem fn_law {st st1 : Stmt} {sts : List Stmt} {f : Addr} {fd : FuncData} {N : List Str} {fo : Ev → Wd → R (List D)} {rest : Sf} {i : Nat} (D0 : Df K mg "law" st ["script"] f fd) (S : FnScope N ["script"] (defScope st)) (hi : i < N.length) (hN : 0 < N.length) (h0 : i ≠ 0)
    (hst : defBody st = st1 :: sts)
    (h1 : ∀ (cdv : Value) (A : Around) (outer : List Env) (s : Shared) (H : Hp) (E : XK), fd.code = cdv → Room k (A.deeper (envOfC "law" (defScope st) s.heap.objs.size f cdv)) →
      PS (cxOf (L2.CX P w) P w K mg base N "law" (defScope st) f cdv A outer s H E) st1 (tAsg (tO ⟨K, mg, T⟩ (fun cls d _ H => E cls d H) fo) (gName i)))
    (h2 : ∀ (cdv : Value) (A : Around) (outer : List Env) (s : Shared) (H : Hp) (E : XK), fd.code = cdv → Room k (A.deeper (envOfC "law" (defScope st) s.heap.objs.size f cdv)) →
      SSs ⟨K, mg, T⟩ (fun cls d _ H => E cls d H) (cxOf (L2.CX P w) P w K mg base N "law" (defScope st) f cdv A outer s H E) sts rest) :
    FnOk P w K mg base (L2.CX P w) (k + 1) f fd ["script"] (spLaw ⟨K, mg, T⟩ (LawTrue i N.length fo rest)) := by
  obtain ⟨oc, od, kV, doc, pm, an, cdv, ct, osl, rfl, lk, hcd⟩ := D0.fn.ex
  refine fn_of lk hcd S (fun vs H Q E ⟨a, ns, e, _⟩ => by rw [e]; rfl) fun A outer s H vs Q E hr ⟨a, ns, e, hq, ht, ⟨ds, w1, w2, eo, er⟩, hQ⟩ => ?_
  refine ⟨tSeq _ _, by rw [show defBody st = st1 :: sts from hst]; exact pss_cons (h1 cdv A outer s H E rfl hr) (h2 cdv A outer s H E rfl hr), ?_⟩
  subst e
  -- what is frozen: the script
  obtain ⟨F, hF, hsF⟩ : ∃ F : Hp, HeapOk ⟨K, mg, T⟩ F none H [] ∧ SqL K F a (ns.map V.int) := by
    rcases hq with hq | hq
    · refine ⟨fun b => if b = a then H a else none, ⟨fun b o q => ?_, fun b q hb => ?_, (fun b _ z => nomatch z), ht, (fun b z => nomatch z)⟩, ?_⟩
      · by_cases hb : b = a
        · rw [if_pos hb] at q; rw [hb]; exact q
        · rw [if_neg hb] at q; cases q
      · by_cases e : b = a
        · subst e
          obtain ⟨ps, z, _⟩ := ht b hb
          rcases hq with hq | ⟨o, hq⟩ <;> (rw [z] at hq; cases hq)
        · rw [if_neg e] at q; exact q rfl
      · rcases hq with hq | ⟨o, hq⟩
        · exact .inl (.inl (by show (if a = a then H a else none) = _; rw [if_pos rfl]; exact hq))
        · exact .inl (.inr ⟨o, by show (if a = a then H a else none) = _; rw [if_pos rfl]; exact hq⟩)
    · exact ⟨fun _ => none, ⟨(fun b o q => nomatch q), (fun b q => absurd rfl q), (fun b q => absurd rfl q), ht, (fun b z => nomatch z)⟩, .inr hq⟩
  have hA : Args ⟨K, mg, T⟩ F none [.ref a] [.sc ns] := .cons ⟨a, rfl, hsF⟩ .nil
  have en := env_start (H := H) (N := N) hA
  refine ⟨F, none, ent 1 N.length [.sc ns], [], ⟨hF, en⟩, ?_⟩
  rw [eo]
  intro F1 H1 hp1 g1 b us hn hb hfb r
  show tS ⟨K, mg, T⟩ _ rest _ ((L2.start N [.ref a]).set i (some (.ref b))) H1
  have en1 := en.grow hF g1
  have el : (ent 1 N.length [.sc ns]).length = N.length := by
    unfold ent
    simp
    omega
  have hi' : i < (ent 1 N.length [.sc ns]).length := by rw [el]; exact hi
  have hσ : i < (L2.start N [.ref a]).length := by rw [← en.len]; exact hi'
  have key : ∀ (j : Nat) t, ((ent 1 N.length [.sc ns]).set i (some .dr))[j]? = some (some t) → (j = i ∧ t = .dr) ∨ (j = 0 ∧ t = .sc ns) := fun j t e => by
    by_cases q : i = j
    · subst q
      rw [List.getElem?_set_self hi'] at e
      cases e
      exact .inl ⟨rfl, rfl⟩
    · rw [List.getElem?_set_ne q] at e
      unfold ent at e
      cases j with
      | zero => cases e; exact .inr ⟨rfl, rfl⟩
      | succ j =>
        rw [List.getElem?_append_right (by simp), List.getElem?_replicate] at e
        split at e <;> cases e
  refine ⟨F1, H1, F1, some b, (ent 1 N.length [.sc ns]).set i (some .dr), ds, ⟨⟨hp1.sub, hp1.noT, fun c q z => ?_, hp1.tab, fun c q => ?_⟩, ⟨by rw [List.length_set, List.length_set]; exact en.len, fun j t e => ?_, fun j l t u v ne e1 e2 o1 o2 e3 => ?_⟩, Grow.refl, fun j t c e o _ => ?_⟩, ?_⟩
  · cases z; exact q hfb
  · cases q; exact ⟨us, hb, r⟩
  · rcases key j t e with ⟨rfl, rfl⟩ | ⟨rfl, rfl⟩
    · exact ⟨.ref b, List.getElem?_set_self hσ, b, rfl, rfl⟩
    · refine ⟨.ref a, ?_, a, rfl, sqL_mono g1.mono hsF⟩
      rw [List.getElem?_set_ne h0]
      rfl
  · rcases key j t e1 with ⟨_, rfl⟩ | ⟨_, rfl⟩ <;> cases o1
  · rcases key j t e with ⟨_, rfl⟩ | ⟨_, rfl⟩ <;> cases o
  · rw [er]
    intro v F2 H2 _ _ rv
    cases rv
    exact hQ H2
end
/-- the tables of all defs of the text are empty at the head -/
def AllTabs (q : Program) (mg : Str → Option Value) (h : Heap) : Prop := ∀ d ∈ recsOf q, ∃ a o fd c Q, mg d.name = some (.ref a) ∧ h.get? a = some o ∧ o.data = .func fd ∧ fd.code = .ref c ∧ h.IsCode c Q #[] ∧ h.TableAt c Q #[]
theorem walk_all {l : PySem.W.OpenLaw} {n k : Nat} {q : Program} {loose : List Str} {XP : (Str → Option Value) → Heap → Prop} {YP : World → Heap → Prop} {d : DefRec} {K : Params → PySem.W.Frag} {x : Str}
    (hn : l.most = some n) (hn2 : n ≤ sizeLine) (hdf : d.params.defaults = []) (hr : Room k callerA) (hY : ∀ (w : World) (h : Heap), YP w h → (K w.params).In h)
    (F : ∀ (w : World) (mg : Str → Option Value) (fa : Addr) (h : Heap), YP w h → (K w.params).In h → h.Ns mainGlobals mg → mg d.name = some (.ref fa) → AllTabs q mg h → LamX.LawAtS l w (K w.params) (L2.CX l.prog w) k n x mg fa h) :
    PySem.W.WalkO q loose XP YP l.row.toRowW d [] (fun f vs => PySem.call f vs) := by
  refine Att.attach_callB hn hdf fun w s₀ s₁ mg mb fa o pm cd doc a vs ns G Y ho hd hcd hmg hobj hints hlen hbits hg => ?_
  have KX := hY w _ Y
  obtain ⟨fd, cs, sp, hT, nT, C, hb, hsp, hF⟩ := F w mg fa _ Y KX G.T.g hmg G.T.tab
  refine LamX.law_callTs KX G.T.g G.T.b G.T.builtins G.T.nolimit hg hT nT C G.T.bmain hobj hints (Nat.le_trans hlen hn2) hr hF hb (fun H hH hS => hsp H a ns hlen hbits hH hS) fun H e s' h => ?_
  obtain ⟨_, _, _, _, _, _, _, _, _, _, _, _, z⟩ := h
  exact z
end DL

set_option Elab.async false
set_option linter.all false
set_option maxRecDepth 100000
set_option maxHeartbeats 4000000
namespace DL
open PySem PySem.Spec PySem.SeqAt PySem.W L2 DG PyProof.Rows
open GxR (TabB TabG Tabbed)
section
variable {X : Cx} {T : Addr → Prop} {Wx : WX} {a : Expr} {fa : Ef} {x : Str} {pos : Pos} {k : Nat}
theorem hu_r (hr : Room k X.A) : X.A.units + 100 < cLine := by have := hr.un; omega
def dNeg : D → Option D
  | .int i => some (.int (-i))
  | _ => none
def eNeg (fa : Ef) : Ef := fun ρ w => (fa ρ w).bind fun d w1 => R.of w1 (dNeg d)
theorem se_neg (ha : SB (gx X T) Wx X a fa) : SE (gx X T) Wx X (.UnaryOp .USub a pos) (eNeg fa) :=
  PE.imp (pe_un un_neg ha) fun σ H Q ⟨F, ad, ρ, w, a0, p⟩ => un_in a0 p fun F1 H1 w1 x dx a1 _ rx p1 => by
    cases dx with
    | int i => exact ⟨i, rx.int, p1 F1 H1 a1.hp Grow.refl _ (.int _)⟩
    | _ => exact p1.elim
/-- a number of the module -/
theorem se_gint {i : Int} (hm : ∃ t, X.mg x = some (.int i t)) (hg : Gl X x := by rfl) (hd : (x == ("__debug__" : Str)) = false := by decide) : SE (gx X T) Wx X (.Name x pos) (eC (.int i)) :=
  se_glob (v := .int i) hg hm.choose_spec ⟨_, rfl⟩ (fun _ => .int i) hd
end
/-- a def with its code's table -/
structure Dt (K : PySem.W.Frag) (mg : Str → Option Value) (base : Heap) (T : Addr → Prop) (x : Str) (st : Stmt) (ps : List Str) (f : Addr) (fd : FuncData) (c Q : Addr) : Prop where
  d : Df K mg x st ps f fd
  cd : fd.code = .ref c
  tb : TabB base mg c Q
  tq : T Q
end DL

set_option Elab.async false
set_option linter.all false
set_option maxRecDepth 100000
set_option maxHeartbeats 4000000
/-! the defs of the law, by gen.py -/
namespace K98
open PySem PySem.Spec PyProof.Rows L2 DL DG
open GxR (TabB TabG)
def top (i : Nat) : Stmt := PySem.Challenge.pw_campslaid_k98_whole_marked_poles.main.body.getD i (.Pass ⟨0, 0, 0, 0⟩)
abbrev st_is_number : Stmt := top 4
theorem sc_is_number : FnScope ["value", "least", "most"] ["value", "least", "most"] (defScope st_is_number) := ⟨rfl, rfl, rfl, by decide +kernel, rfl, by decide +kernel, by decide +kernel⟩
abbrev st_are_marks : Stmt := top 7
theorem sc_are_marks : FnScope ["length", "value", "place", "one"] ["length", "value"] (defScope st_are_marks) := ⟨rfl, rfl, rfl, by decide +kernel, rfl, by decide +kernel, by decide +kernel⟩
abbrev st_lengths_of : Stmt := top 8
theorem sc_lengths_of : FnScope ["marks", "found", "place", "mark", "other"] ["marks"] (defScope st_lengths_of) := ⟨rfl, rfl, rfl, by decide +kernel, rfl, by decide +kernel, by decide +kernel⟩
abbrev st_are_whole : Stmt := top 9
theorem sc_are_whole : FnScope ["marks", "found", "length"] ["marks"] (defScope st_are_whole) := ⟨rfl, rfl, rfl, by decide +kernel, rfl, by decide +kernel, by decide +kernel⟩
abbrev st_are_single : Stmt := top 10
theorem sc_are_single : FnScope ["marks", "found", "place"] ["marks"] (defScope st_are_single) := ⟨rfl, rfl, rfl, by decide +kernel, rfl, by decide +kernel, by decide +kernel⟩
abbrev st_all_marks : Stmt := top 11
theorem sc_all_marks : FnScope ["length", "many", "found", "_", "row", "mark"] ["length", "many"] (defScope st_all_marks) := ⟨rfl, rfl, rfl, by decide +kernel, rfl, by decide +kernel, by decide +kernel⟩
abbrev st_whole_marks : Stmt := top 12
theorem sc_whole_marks : FnScope ["length", "many", "found", "row"] ["length"] (defScope st_whole_marks) := ⟨rfl, rfl, rfl, by decide +kernel, rfl, by decide +kernel, by decide +kernel⟩
abbrev st_longest_whole : Stmt := top 13
theorem sc_longest_whole : FnScope ["m", "rows", "length", "row"] ["m"] (defScope st_longest_whole) := ⟨rfl, rfl, rfl, by decide +kernel, rfl, by decide +kernel, by decide +kernel⟩
abbrev st_shortest_single : Stmt := top 14
theorem sc_shortest_single : FnScope ["m", "rows", "length", "row"] ["m"] (defScope st_shortest_single) := ⟨rfl, rfl, rfl, by decide +kernel, rfl, by decide +kernel, by decide +kernel⟩
abbrev st__law_draws : Stmt := top 16
theorem sc__law_draws : FnScope ["script", "draws", "cell", "seed", "k", "number", "first"] ["script"] (defScope st__law_draws) := ⟨rfl, rfl, rfl, by decide +kernel, rfl, by decide +kernel, by decide +kernel⟩
abbrev st__law_take : Stmt := top 17
theorem sc__law_take : FnScope ["draws", "bound"] ["draws", "bound"] (defScope st__law_take) := ⟨rfl, rfl, rfl, by decide +kernel, rfl, by decide +kernel, by decide +kernel⟩
abbrev st__law_same : Stmt := top 18
theorem sc__law_same : FnScope ["actual", "due", "k"] ["actual", "due"] (defScope st__law_same) := ⟨rfl, rfl, rfl, by decide +kernel, rfl, by decide +kernel, by decide +kernel⟩
abbrev st__law_told : Stmt := top 19
theorem sc__law_told : FnScope ["which", "m", "e"] ["which", "m"] (defScope st__law_told) := ⟨rfl, rfl, rfl, by decide +kernel, rfl, by decide +kernel, by decide +kernel⟩
abbrev st__law_counts : Stmt := top 20
theorem sc__law_counts : FnScope ["marks", "found", "one", "other"] ["marks"] (defScope st__law_counts) := ⟨rfl, rfl, rfl, by decide +kernel, rfl, by decide +kernel, by decide +kernel⟩
abbrev st__law_judged : Stmt := top 21
theorem sc__law_judged : FnScope ["marks", "counts", "whole", "length"] ["marks"] (defScope st__law_judged) := ⟨rfl, rfl, rfl, by decide +kernel, rfl, by decide +kernel, by decide +kernel⟩
abbrev st__law_all : Stmt := top 22
theorem sc__law_all : FnScope ["length", "found", "mark", "row"] ["length"] (defScope st__law_all) := ⟨rfl, rfl, rfl, by decide +kernel, rfl, by decide +kernel, by decide +kernel⟩
abbrev st_law : Stmt := top 23
theorem sc_law : FnScope ["script", "draws", "length", "every", "table", "turn", "both", "m", "longest", "shortest", "fits", "singles", "wrong", "marks", "whole", "single", "back", "pairs", "row", "one"] ["script"] (defScope st_law) := ⟨rfl, rfl, rfl, by decide +kernel, rfl, by decide +kernel, by decide +kernel⟩
/- slots of is_number: 0:value 1:least 2:most -/
def f_is_number : Sf := (sRet (eAn (eIs "int" (eBw 0)) (eAn (eNo (eIs "bool" (eBw 0))) (eChain dLe dLe (eBw 1) (eBw 0) (eBw 2)))))
def m_is_number : List Sl → Wd → R D := fnD 3 3 f_is_number
/- slots of are_marks: 0:length 1:value 2:place 3:one -/
def f_are_marks : Sf := (sSeq (sIf (tOo (tNo (tstV (eIs "tuple" (eBw 1)))) (tNo (tstV (eGen true (iS (eV 1)) (gN 3) oYes (eCallF 3 m_is_number (aCons (eV 3) (aCons (eC (.int 0)) (aCons (eV 0) aNil)))) [3])))) (sRet (eC (.bool false))) sNil)
  (sSeq (sIf (tOo (tCm dNe (eCut (eBw 1) pN (pS (eC (.int 1)))) (eTup (lC (eC (.int 0)) lN))) (tCm dNe (eCut (eBw 1) (pS (eNeg (eC (.int 1)))) pN) (eTup (lC (eV 0) lN)))) (sRet (eC (.bool false))) sNil)
  (sRet (eGen true (iR1 (eBin dSub (eCall gLen (lC (eBw 1) lN)) (eC (.int 1)))) (gN 2) oYes (eBin dLt (eBin dIx (eBw 1) (eBw 2)) (eBin dIx (eBw 1) (eBin dAdd (eBw 2) (eC (.int 1))))) [2]))))
def m_are_marks : List Sl → Wd → R D := fnD 2 4 f_are_marks
/- slots of lengths_of: 0:marks 1:found 2:place 3:mark 4:other -/
def f_lengths_of : Sf := (sSeq (sOwn (oLst lN) 1)
  (sSeq (sFor (iEnm (eV 0)) (gT 2 (gsC (gN 2) (gsC (gN 3) gsN))) (sExt 1 (eFz (oLc (iS (eCut (eBw 0) pN (pS (eBw 2)))) (gN 4) oYes (eBin dSub (eBw 3) (eBw 4)) [4]))))
  (sSeq (sFz 1) (sRet (eFz (oCall gSorted (lC (eBw 1) lN)))))))
def m_lengths_of : List Sl → Wd → R D := fnD 1 5 f_lengths_of
/- slots of are_whole: 0:marks 1:found 2:length -/
def f_are_whole : Sf := (sSeq (sAsg (eCallF 1 m_lengths_of (aCons (eV 0) aNil)) (gN 1))
  (sRet (eGen true (iR2 (eC (.int 1)) (eBin dAdd (eBin dIx (eBw 0) (eNeg (eC (.int 1)))) (eC (.int 1)))) (gN 2) oYes (eBin (dIn2 false) (eBw 2) (eBw 1)) [2])))
def m_are_whole : List Sl → Wd → R D := fnD 1 3 f_are_whole
/- slots of are_single: 0:marks 1:found 2:place -/
def f_are_single : Sf := (sSeq (sAsg (eCallF 1 m_lengths_of (aCons (eV 0) aNil)) (gN 1))
  (sRet (eGen true (iR1 (eBin dSub (eCall gLen (lC (eBw 1) lN)) (eC (.int 1)))) (gN 2) oYes (eBin dLt (eBin dIx (eBw 1) (eBw 2)) (eBin dIx (eBw 1) (eBin dAdd (eBw 2) (eC (.int 1))))) [2])))
def m_are_single : List Sl → Wd → R D := fnD 1 3 f_are_single
/- slots of all_marks: 0:length 1:many 2:found 3:_ 4:row 5:mark -/
def f_all_marks : Sf := (sSeq (sAsg (eFz (oLst (lC (eTup (lC (eC (.int 0)) lN)) lN))) (gN 2))
  (sSeq (sFor (iR1 (eBin dSub (eBw 1) (eC (.int 2)))) (gN 3) (sSeq (sOwn (oLc2 (iS (eV 2)) (gN 4) oYes (iR2 (eBin dAdd (eBin dIx (eBw 4) (eNeg (eC (.int 1)))) (eC (.int 1))) (eBw 0)) (gN 5) oYes (eTup (lStar (eV 4) (lC (eV 5) lN))) [4, 5] [5]) 2)
  (sSeq (sFz 2) sNil)))
  (sRet (eFz (oLc (iS (eV 2)) (gN 4) oYes (eTup (lStar (eV 4) (lC (eV 0) lN))) [4])))))
def m_all_marks : List Sl → Wd → R D := fnD 2 6 f_all_marks
/- slots of whole_marks: 0:length 1:many 2:found 3:row -/
def f_whole_marks : Sf := (sSeq (sAsg (eC (.int 2)) (gN 1))
  (sSeq (sOwn (oLc (iS (eCallF 2 m_all_marks (aCons (eV 0) (aCons (eV 1) aNil)))) (gN 3) (tstV (eCallF 1 m_are_whole (aCons (eV 3) aNil))) (eV 3) [3]) 2)
  (sSeq (sFz 2) (sSeq (whl (tCm dEq (eCall gLen (lC (eBw 2) lN)) (eC (.int 0))) (sSeq (sAug 1 dIadd (eC (.int 1)))
  (sSeq (sOwn (oLc (iS (eCallF 2 m_all_marks (aCons (eV 0) (aCons (eV 1) aNil)))) (gN 3) (tstV (eCallF 1 m_are_whole (aCons (eV 3) aNil))) (eV 3) [3]) 2)
  (sSeq (sFz 2) sNil))) 16)
  (sRet (eCall gMin (lC (eBw 2) lN)))))))
def m_whole_marks : List Sl → Wd → R D := fnD 1 4 f_whole_marks
/- slots of longest_whole: 0:m 1:rows 2:length 3:row -/
def f_longest_whole : Sf := (sSeq (sIf (tNo (tstV (eCallF 3 m_is_number (aCons (eV 0) (aCons (eC (.int 2)) (aCons (eC (.int 6)) aNil)))))) (sRaise "OutOfRange") sNil)
  (sSeq (sOwn (oLc (iR2 (eC (.int 1)) (eBin dAdd (eC (.int 14)) (eC (.int 1)))) (gN 2) (tstV (eGen false (iS (eCallF 2 m_all_marks (aCons (eV 2) (aCons (eV 0) aNil)))) (gN 3) oYes (eCallF 1 m_are_whole (aCons (eV 3) aNil)) [3])) (eV 2) [2]) 1)
  (sSeq (sFz 1) (sRet (eCall gMax (lC (eBw 1) lN))))))
def m_longest_whole : List Sl → Wd → R D := fnD 1 4 f_longest_whole
/- slots of shortest_single: 0:m 1:rows 2:length 3:row -/
def f_shortest_single : Sf := (sSeq (sIf (tNo (tstV (eCallF 3 m_is_number (aCons (eV 0) (aCons (eC (.int 2)) (aCons (eC (.int 5)) aNil)))))) (sRaise "OutOfRange") sNil)
  (sSeq (sOwn (oLc (iR2 (eC (.int 1)) (eBin dAdd (eC (.int 14)) (eC (.int 1)))) (gN 2) (tstV (eGen false (iS (eCallF 2 m_all_marks (aCons (eV 2) (aCons (eV 0) aNil)))) (gN 3) oYes (eCallF 1 m_are_single (aCons (eV 3) aNil)) [3])) (eV 2) [2]) 1)
  (sSeq (sFz 1) (sRet (eCall gMin (lC (eBw 1) lN))))))
def m_shortest_single : List Sl → Wd → R D := fnD 1 4 f_shortest_single
/- slots of _law_draws: 0:script 1:draws 2:cell 3:seed 4:k 5:number 6:first -/
def f__law_draws : Sf := (sSeq (sOwn (oLst lN) 1)
  (sSeq (sFor (iSc 0) (gN 2) (sSeq (sAsg (eCall gAbs (lC (eBw 2) lN)) (gN 5))
  (sSeq (sIf (tCm dLt (eBw 5) (eBin dPow (eC (.int 10)) (eC (.int 18)))) (sSeq (sAsg (eBin dMod (eCall gInt (lC (eBin dAdd (eBin dMul (eBw 5) (eC (.int 48271))) (eC (.int 11))) lN)) (eC (.int 2147483647))) (gN 6))
  (sSeq (sApp 1 (eBin dMod (eCall gInt (lC (eBin dAdd (eBin dMul (eBw 6) (eC (.int 69621))) (eBw 5)) lN)) (eC (.int 2147483629))))
  (sSeq (sApp 1 (eBin dMod (eCall gInt (lC (eBin dAdd (eBw 6) (eBin dFdiv (eBw 5) (eC (.int 7)))) lN)) (eC (.int 1000003))))
  (sAsg (eC (.int 0)) (gN 5))))) sNil)
  (sFor (iR1 (eC (.int 60))) (gN 4) (sIf (tCm dGt (eBw 5) (eC (.int 0))) (sSeq (sApp 1 (eBin dMod (eCall gInt (lC (eBw 5) lN)) (eC (.int 997))))
  (sAsg (eBin dFdiv (eBw 5) (eC (.int 997))) (gN 5))) sNil)))))
  (sSeq (sAsg (eC (.int 1)) (gN 3))
  (sSeq (sIf (tCm dGt (eDrLen 0) (eC (.int 0))) (sAsg (eBin dAdd (eC (.int 1)) (eCall gAbs (lC (eScIx 0 (eC (.int 0))) lN))) (gN 3)) sNil)
  (sSeq (sFor (iR1 (eC (.int 900))) (gN 4) (sSeq (sAsg (eBin dMod (eCall gInt (lC (eBin dAdd (eBin dMul (eBw 3) (eC (.int 48271))) (eC (.int 69621))) lN)) (eC (.int 2147483647))) (gN 3))
  (sApp 1 (eBin dFdiv (eBw 3) (eC (.int 5))))))
  (sSeq (sFz 1) (sRetO (oRev (eBw 1)))))))))
def m__law_draws : List Sl → Wd → R (List D) := fnO 1 7 f__law_draws
/- slots of _law_take: 0:draws 1:bound -/
def f__law_take : Sf := (sSeq (sIf (tCm dEq (eDrLen 0) (eC (.int 0))) (sRet (eC (.int 0))) sNil)
  (sRet (eBin dMod (eCall gInt (lC (eDrPop 0) lN)) (eBw 1))))
def m__law_take : List Sl → Wd → R D := fnD 2 2 f__law_take
/- slots of _law_same: 0:actual 1:due 2:k -/
def f__law_same (mj : List Sl → Wd → R D) : Sf := (sSeq (sIf (tOo (tCm dIs (eBw 1) (eC .none)) (tCm dIs (eBw 0) (eC .none))) (sRet (eAn (eBin dIs (eBw 1) (eC .none)) (eBin dIs (eBw 0) (eC .none)))) sNil)
  (sSeq (sIf (tOo (tstV (eIs "tuple" (eBw 1))) (tstV (eIs "list" (eBw 1)))) (sSeq (sIf (tOo (tCm dNe (eIs "tuple" (eBw 1)) (eIs "tuple" (eBw 0))) (tCm dNe (eIs "list" (eBw 1)) (eIs "list" (eBw 0)))) (sRet (eC (.bool false))) sNil)
  (sSeq (sIf (tCm dNe (eCall gLen (lC (eBw 0) lN)) (eCall gLen (lC (eBw 1) lN))) (sRet (eC (.bool false))) sNil)
  (sSeq (sFor (iR1 (eCall gLen (lC (eBw 1) lN))) (gN 2) (sIf (tNo (tstV (eCallF 2 mj (aCons (eBin dIx (eBw 0) (eBw 2)) (aCons (eBin dIx (eBw 1) (eBw 2)) aNil))))) (sRet (eC (.bool false))) sNil))
  (sRet (eC (.bool true)))))) sNil)
  (sSeq (sIf (tCm dNe (eIs "bool" (eBw 1)) (eIs "bool" (eBw 0))) (sRet (eC (.bool false))) sNil)
  (sSeq (sIf (tOo (tCm dNe (eIs "int" (eBw 1)) (eIs "int" (eBw 0))) (tCm dNe (eIs "str" (eBw 1)) (eIs "str" (eBw 0)))) (sRet (eC (.bool false))) sNil)
  (sRet (eBin dEq (eBw 0) (eBw 1)))))))
def m__law_same : Nat → List Sl → Wd → R D
  | 0 => fun _ _ => .bad
  | j + 1 => fnD 2 3 (f__law_same (m__law_same j))
/- slots of _law_told: 0:which 1:m 2:e -/
def f__law_told : Sf := (sTryIs (sSeq (sIf (tCm dEq (eBw 0) (eC (.int 0))) (sRet (eCallF 1 m_longest_whole (aCons (eV 1) aNil))) sNil)
  (sRet (eCallF 1 m_shortest_single (aCons (eV 1) aNil)))) "OutOfRange" "range")
def m__law_told : List Sl → Wd → R D := fnD 2 3 f__law_told
/- slots of _law_counts: 0:marks 1:found 2:one 3:other -/
def f__law_counts : Sf := (sSeq (sDnew 1)
  (sSeq (sFor (iS (eV 0)) (gN 2) (sFor (iS (eV 0)) (gN 3) (sIf (tCm dLt (eBw 2) (eBw 3)) (sDput 1 (eBin dSub (eBw 3) (eBw 2)) (eBin dAdd (eGet2 (eBw 1) (eBin dSub (eBw 3) (eBw 2)) (eC (.int 0))) (eC (.int 1)))) sNil)))
  (sSeq (sFz 1) (sRet (eV 1)))))
def m__law_counts : List Sl → Wd → R D := fnD 1 4 f__law_counts
/- slots of _law_judged: 0:marks 1:counts 2:whole 3:length -/
def f__law_judged : Sf := (sSeq (sAsg (eCallF 1 m__law_counts (aCons (eV 0) aNil)) (gN 1))
  (sSeq (sAsg (eBin dEq (eFz (oLc (iR2 (eC (.int 1)) (eBin dAdd (eBin dIx (eBw 0) (eNeg (eC (.int 1)))) (eC (.int 1)))) (gN 3) (tCm (dIn2 true) (eBw 3) (eBw 1)) (eV 3) [3])) (eFz (oLst lN))) (gN 2))
  (sRet (eTup (lC (eV 2) (lC (eBin dEq (eFz (oLc (iDk (eV 1)) (gN 3) (tCm dGt (eBin dDix (eBw 1) (eBw 3)) (eC (.int 1))) (eV 3) [3])) (eFz (oLst lN))) lN))))))
def m__law_judged : List Sl → Wd → R D := fnD 1 4 f__law_judged
/- slots of _law_all: 0:length 1:found 2:mark 3:row -/
def f__law_all : Sf := (sSeq (sAsg (eFz (oLst (lC (eTup lN) lN))) (gN 1))
  (sSeq (sFor (iR2 (eC (.int 1)) (eBw 0)) (gN 2) (sAsg (eBin dAdd (eBw 1) (eFz (oLc (iS (eV 1)) (gN 3) oYes (eBin dAdd (eBw 3) (eTup (lC (eV 2) lN))) [3]))) (gN 1)))
  (sRet (eFz (oLc (iS (eV 1)) (gN 3) oYes (eBin dAdd (eBin dAdd (eTup (lC (eC (.int 0)) lN)) (eBw 3)) (eTup (lC (eV 0) lN))) [3])))))
def m__law_all : List Sl → Wd → R D := fnD 1 4 f__law_all
/- slots of law: 0:script 1:draws 2:length 3:every 4:table 5:turn 6:both 7:m 8:longest 9:shortest 10:fits 11:singles 12:wrong 13:marks 14:whole 15:single 16:back 17:pairs 18:row 19:one -/
def f_law0 : Ev → Wd → R (List D) := (oCallF 1 m__law_draws (aSl 0 aNil))
def f_law : Sf := (sSeq (sAsg (eBin dAdd (eC (.int 1)) (eCallF 2 m__law_take (aSl 1 (aCons (eC (.int 10)) aNil)))) (gN 2))
  (sSeq (sAsg (eCallF 1 m__law_all (aCons (eV 2) aNil)) (gN 3))
  (sSeq (sOwn (oLc (iS (eV 3)) (gN 18) (tstV (eBin dIx (eCallF 1 m__law_judged (aCons (eV 18) aNil)) (eC (.int 0)))) (eTup (lC (eCall gLen (lC (eBw 18) lN)) (lC (eV 18) lN))) [18]) 4)
  (sSeq (sFz 4) (sSeq (sIf (tNo (tstV (eCallF 2 (m__law_same 4) (aCons (eCallF 1 m_whole_marks (aCons (eV 2) aNil)) (aCons (eBin dIx (eCall gMin (lC (eBw 4) lN)) (eC (.int 1))) aNil))))) (sRet (eC (.bool false))) sNil)
  (sSeq (sFor (iR1 (eC (.int 8))) (gN 5) (sSeq (sAsg (eBin dIx (eBw 3) (eCallF 2 m__law_take (aSl 1 (aCons (eCall gLen (lC (eBw 3) lN)) aNil)))) (gN 13))
  (sSeq (sAsg (eCallF 1 m__law_judged (aCons (eV 13) aNil)) (gT 2 (gsC (gN 14) (gsC (gN 15) gsN))))
  (sSeq (sAsg (eCall gTuple (lC (eFz (oLc (iS (eRev (eBw 13))) (gN 19) oYes (eBin dSub (eBw 2) (eBw 19)) [19])) lN)) (gN 16))
  (sSeq (sIf (tOo (tCm dNis (eCallF 2 m_are_marks (aCons (eV 2) (aCons (eV 13) aNil))) (eC (.bool true))) (tNo (tstV (eCallF 2 (m__law_same 4) (aCons (eFz (oLst (lC (eCallF 1 m_are_whole (aCons (eV 13) aNil)) (lC (eCallF 1 m_are_single (aCons (eV 13) aNil)) (lC (eCallF 1 m_are_whole (aCons (eV 16) aNil)) (lC (eCallF 1 m_are_single (aCons (eV 16) aNil)) lN)))))) (aCons (eFz (oLst (lC (eV 14) (lC (eV 15) (lC (eV 14) (lC (eV 15) lN)))))) aNil)))))) (sRet (eC (.bool false))) sNil)
  (sSeq (sAsg (eBin dFdiv (eBin dMul (eCall gLen (lC (eBw 13) lN)) (eBin dSub (eCall gLen (lC (eBw 13) lN)) (eC (.int 1)))) (eC (.int 2))) (gN 17))
  (sIf (tOo (tAn (tstV (eBw 14)) (tCm dLt (eBw 17) (eBw 2))) (tAn (tstV (eBw 15)) (tCm dGt (eBw 17) (eBw 2)))) (sRet (eC (.bool false))) sNil)))))))
  (sSeq (sOwn (oLc (iS (eV 3)) (gN 18) (tCm dEq (eCallF 1 m__law_judged (aCons (eV 18) aNil)) (eTup (lC (eC (.bool true)) (lC (eC (.bool true)) lN)))) (eV 18) [18]) 6)
  (sSeq (sFz 6) (sSeq (sIf (tCm dNe (eBin dNe (eBw 6) (eFz (oLst lN))) (eBin (dIn2 false) (eBw 2) (eTup (lC (eC (.int 1)) (lC (eC (.int 3)) (lC (eC (.int 6)) lN)))))) (sRet (eC (.bool false))) sNil)
  (sSeq (sAsg (eBin dAdd (eC (.int 2)) (eCallF 2 m__law_take (aSl 1 (aCons (eC (.int 4)) aNil)))) (gN 7))
  (sSeq (sPar 8 9 (lC (eCallF 2 m__law_told (aCons (eC (.int 0)) (aCons (eV 7) aNil))) (lC (eCallF 2 m__law_told (aCons (eC (.int 1)) (aCons (eV 7) aNil))) lN)))
  (sSeq (sOwn (oLc (iS (eV 3)) (gN 18) (tAn (tCm dEq (eCall gLen (lC (eBw 18) lN)) (eBw 7)) (tstV (eBin dIx (eCallF 1 m__law_judged (aCons (eV 18) aNil)) (eC (.int 0))))) (eV 18) [18]) 10)
  (sSeq (sFz 10) (sSeq (sOwn (oLc (iS (eV 3)) (gN 18) (tAn (tCm dEq (eCall gLen (lC (eBw 18) lN)) (eBw 7)) (tstV (eBin dIx (eCallF 1 m__law_judged (aCons (eV 18) aNil)) (eC (.int 1))))) (eV 18) [18]) 11)
  (sSeq (sFz 11) (sSeq (sIf (tOo (tCm dNe (eFz (oLst (lC (eV 8) (lC (eV 9) lN)))) (eBin dIx (eFz (oLst (lC (eFz (oLst (lC (eC (.int 1)) (lC (eC (.int 1)) lN)))) (lC (eFz (oLst (lC (eC (.int 3)) (lC (eC (.int 3)) lN)))) (lC (eFz (oLst (lC (eC (.int 6)) (lC (eC (.int 6)) lN)))) (lC (eFz (oLst (lC (eC (.int 9)) (lC (eC (.int 11)) lN)))) lN)))))) (eBin dSub (eBw 7) (eC (.int 2))))) (tOo (tAn (tCm dNe (eBw 10) (eFz (oLst lN))) (tCm dGt (eBw 2) (eBw 8))) (tAn (tCm dNe (eBw 11) (eFz (oLst lN))) (tCm dLt (eBw 2) (eBw 9))))) (sRet (eC (.bool false))) sNil)
  (sSeq (sIf (tOo (tAn (tCm dEq (eBw 2) (eBw 8)) (tCm dEq (eBw 10) (eFz (oLst lN)))) (tAn (tCm dEq (eBw 2) (eBw 9)) (tCm dEq (eBw 11) (eFz (oLst lN))))) (sRet (eC (.bool false))) sNil)
  (sSeq (sIf (tOo (tCm dNe (eBin dAdd (eFz (oLc (iS (eFz (oLst (lC (eC (.int 1)) (lC (eC (.int 7)) lN))))) (gN 19) oYes (eCallF 2 m__law_told (aCons (eC (.int 0)) (aCons (eV 19) aNil))) [19])) (eFz (oLc (iS (eFz (oLst (lC (eC (.int 1)) (lC (eC (.int 6)) lN))))) (gN 19) oYes (eCallF 2 m__law_told (aCons (eC (.int 1)) (aCons (eV 19) aNil))) [19]))) (eBin dMul (eFz (oLst (lC (eC (.str "range")) lN))) (eC (.int 4)))) (tCm dNe (eCallF 2 m__law_told (aCons (eC (.int 0)) (aCons (eC (.int 6)) aNil))) (eC (.int 13)))) (sRet (eC (.bool false))) sNil)
  (sSeq (sAsg (eFz (oLst (lC (eFz (oCall gList (lC (eBw 13) lN))) (lC (eTup lN) (lC (eTup (lC (eC (.int 0)) lN)) (lC (eTup (lC (eV 2) lN)) (lC (eC .none) (lC (eC (.str "marks")) (lC (eTup (lC (eC (.int 1)) (lC (eV 2) lN))) (lC (eTup (lC (eC (.int 0)) (lC (eBin dAdd (eBw 2) (eC (.int 1))) lN))) (lC (eTup (lC (eC (.int 0)) (lC (eV 2) (lC (eV 2) lN)))) (lC (eTup (lC (eC (.int 0)) (lC (eC .none) lN))) (lC (eTup (lC (eC (.bool false)) (lC (eV 2) lN))) (lC (eTup (lC (eC (.int 0)) (lC (eNeg (eC (.int 1))) (lC (eV 2) lN)))) (lC (eTup (lC (eC (.int 0)) (lC (eC (.str "1")) (lC (eV 2) lN)))) lN))))))))))))))) (gN 12))
  (sRet (eBin dEq (eFz (oLc (iS (eV 12)) (gN 19) (tCm dNis (eCallF 2 m_are_marks (aCons (eV 2) (aCons (eV 19) aNil))) (eC (.bool false))) (eV 19) [19])) (eFz (oLst lN)))))))))))))))))))))))
structure Fx (K : PySem.W.Frag) (mg : Str → Option Value) (base : Heap) (T : Addr → Prop) (a_OutOfRange a_CampError : Addr) : Prop where
  b_abs : mg "abs" = none
  b_all : mg "all" = none
  b_any : mg "any" = none
  b_bool : mg "bool" = none
  b_enumerate : mg "enumerate" = none
  b_int : mg "int" = none
  b_isinstance : mg "isinstance" = none
  b_len : mg "len" = none
  b_list : mg "list" = none
  b_max : mg "max" = none
  b_min : mg "min" = none
  b_range : mg "range" = none
  b_reversed : mg "reversed" = none
  b_sorted : mg "sorted" = none
  b_str : mg "str" = none
  b_tuple : mg "tuple" = none
  c_MOST_LENGTH : ∃ t, mg "MOST_LENGTH" = some (.int 14 t)
  x_OutOfRange : ExD K mg "OutOfRange" a_OutOfRange "ValueError" "ValueError.__new__" "ValueError.__init__" [.type "ValueError", .type "Exception", .type "BaseException", .type "object"]
  xc_OutOfRange : ExcC K a_OutOfRange
  xk_OutOfRange : PySem.W.kitOne K (.ref a_OutOfRange) (.ref a_OutOfRange) = some true
  xm_OutOfRange_CampError : PySem.W.exmOne K (.ref a_OutOfRange) (.ref a_CampError) = some true
  xg_CampError : mg "CampError" = some (.ref a_CampError)
  d_is_number : ∃ f fd, Df K mg "is_number" st_is_number ["value", "least", "most"] f fd
  d_are_marks : ∃ f fd c Q, Dt K mg base T "are_marks" st_are_marks ["length", "value"] f fd c Q
  d_lengths_of : ∃ f fd, Df K mg "lengths_of" st_lengths_of ["marks"] f fd
  d_are_whole : ∃ f fd c Q, Dt K mg base T "are_whole" st_are_whole ["marks"] f fd c Q
  d_are_single : ∃ f fd c Q, Dt K mg base T "are_single" st_are_single ["marks"] f fd c Q
  d_all_marks : ∃ f fd, Df K mg "all_marks" st_all_marks ["length", "many"] f fd
  d_whole_marks : ∃ f fd, Df K mg "whole_marks" st_whole_marks ["length"] f fd
  d_longest_whole : ∃ f fd c Q, Dt K mg base T "longest_whole" st_longest_whole ["m"] f fd c Q
  d_shortest_single : ∃ f fd c Q, Dt K mg base T "shortest_single" st_shortest_single ["m"] f fd c Q
  d__law_draws : ∃ f fd, Df K mg "_law_draws" st__law_draws ["script"] f fd
  d__law_take : ∃ f fd, Df K mg "_law_take" st__law_take ["draws", "bound"] f fd
  d__law_same : ∃ f fd, Df K mg "_law_same" st__law_same ["actual", "due"] f fd
  d__law_told : ∃ f fd, Df K mg "_law_told" st__law_told ["which", "m"] f fd
  d__law_counts : ∃ f fd, Df K mg "_law_counts" st__law_counts ["marks"] f fd
  d__law_judged : ∃ f fd, Df K mg "_law_judged" st__law_judged ["marks"] f fd
  d__law_all : ∃ f fd, Df K mg "_law_all" st__law_all ["length"] f fd
section
variable {P : Program} {w : World} {K : PySem.W.Frag} {mg : Str → Option Value} {base : Heap} {T : Addr → Prop} {a_OutOfRange a_CampError : Addr}
theorem k_is_number (W : Fx K mg base T a_OutOfRange a_CampError) : Kf P w K mg base T 1 "is_number" 3 m_is_number := by
  obtain ⟨f, fd, D0⟩ := W.d_is_number
  exact fn_d (k := 0) D0 sc_is_number fun cdv A outer s H E hcd hr =>
    (ss_one (ss_ret (se_and (se_is rfl W.b_isinstance (by decide +kernel) rfl W.b_int (by decide +kernel) (sb_var (pv 0))) (se_and (se_not (sb (se_is rfl W.b_isinstance (by decide +kernel) rfl W.b_bool (by decide +kernel) (sb_var (pv 0))))) (se_one (se_chain od_le od_le (sb_var (pv 1)) (sb_var (pv 0)) (sb_var (pv 2))))))))
theorem k_are_marks (W : Fx K mg base T a_OutOfRange a_CampError) : Kf P w K mg base T 3 "are_marks" 2 m_are_marks := by
  obtain ⟨f, fd, c, Q, Dq⟩ := W.d_are_marks
  have D0 := Dq.d
  exact fn_d (k := 2) D0 sc_are_marks fun cdv A outer s H E hcd hr =>
    (ss_cons (ss_if (PW.pt (sw_or (st_not (st_val (sb (se_is rfl W.b_isinstance (by decide +kernel) rfl W.b_tuple (by decide +kernel) (sb_var (pv 1)))))) (sw_or1 (st_not (st_val (sb (se_all (own := [("one", 3)]) (k := 1) Dq.tq hr rfl W.b_all (by decide +kernel) Dq.tb (hcd.symm.trans Dq.cd) (gsc_by (N := ["length", "value", "place", "one"]) (sc := defScope st_are_marks) (by decide +kernel)) sc_are_marks.nd (by decide) (si_seq (se_var (pv 1))) (fun _ _ _ _ _ _ _ _ => (sg_name (pg_name (i := 3) sc_are_marks.nd rfl (by first | exact Or.inl rfl | exact Or.inr rfl)))) (fun _ _ _ _ _ _ _ hr1 => pts_t0) (fun _ _ _ _ _ _ _ hr1 => (se_callD ((k_is_number W).up (by omega)) hr1 takes0 (sa_cons (se_var (pv 3)) (sa_cons se_int (sa_cons (se_var (pv 0)) sa_nil))))))))))))
    (ss_one (ss_ret se_bl))
    ss_nil)
    (ss_cons (ss_if (PW.pt (sw_or (st_cmp (od_ne (hu_r hr)) (sb (se_cut (sb_var (pv 1)) sp_none (sp_some (sb se_int)))) (sb (se_tup (sl_cons se_int sl_nil))) (by first | rfl | exact nomark _)) (sw_or1 (st_cmp (od_ne (hu_r hr)) (sb (se_cut (sb_var (pv 1)) (sp_some (sb (se_neg (sb se_int)))) sp_none)) (sb (se_tup (sl_cons (se_var (pv 0)) sl_nil))) (by first | rfl | exact nomark _)))))
    (ss_one (ss_ret se_bl))
    ss_nil)
    (ss_one (ss_ret (se_all (own := [("place", 2)]) (k := 1) Dq.tq hr rfl W.b_all (by decide +kernel) Dq.tb (hcd.symm.trans Dq.cd) (gsc_by (N := ["length", "value", "place", "one"]) (sc := defScope st_are_marks) (by decide +kernel)) sc_are_marks.nd (by decide) (si_r1 rfl W.b_range (sb (se_bin od_sub (sb (se_callB cd_len rfl W.b_len (by decide +kernel) (lb_cons (sb_var (pv 1)) lb_nil))) (sb se_int)))) (fun _ _ _ _ _ _ _ _ => (sg_name (pg_name (i := 2) sc_are_marks.nd rfl (by first | exact Or.inl rfl | exact Or.inr rfl)))) (fun _ _ _ _ _ _ _ hr2 => pts_t0) (fun _ _ _ _ _ _ _ hr2 => (se_cmp od_lt (sb (se_ix (sb_var (pv 1)) (sb_var (pv 2)))) (sb (se_ix (sb_var (pv 1)) (sb (se_bin od_add (sb_var (pv 2)) (sb se_int))))) (by first | rfl | exact nomark _))))))))
theorem k_lengths_of (W : Fx K mg base T a_OutOfRange a_CampError) : Kf P w K mg base T 1 "lengths_of" 1 m_lengths_of := by
  obtain ⟨f, fd, D0⟩ := W.d_lengths_of
  exact fn_d (k := 0) D0 sc_lengths_of fun cdv A outer s H E hcd hr =>
    (ss_cons (ss_own (i := 1) (so_lst sl_nil) sc_lengths_of.nd rfl (by first | exact Or.inl rfl | exact Or.inr rfl))
    (ss_cons (ss_for (passes_of rfl) rfl (si_enum rfl W.b_enumerate (se_var (pv 0))) (sg_tup rfl (sgs_cons (sg_name (pg_name (i := 2) sc_lengths_of.nd rfl (by first | exact Or.inl rfl | exact Or.inr rfl))) (sgs_cons (sg_name (pg_name (i := 3) sc_lengths_of.nd rfl (by first | exact Or.inl rfl | exact Or.inr rfl))) sgs_nil)))
    (ss_one (ss_extend (i := 1) (pv 1) (se_of (so_lc rfl sc_lengths_of.nd (own := [("other", 4)]) (si_seq (se_cut (sb_var (pv 0)) sp_none (sp_some (sb_var (pv 2))))) (blkOk_by (N := ["marks", "found", "place", "mark", "other"]) (sc := defScope st_lengths_of) (by decide +kernel)) (by decide) (fun _ _ _ _ _ => (sg_name (pg_name (i := 4) sc_lengths_of.nd rfl (by first | exact Or.inl rfl | exact Or.inr rfl)))) (fun _ _ _ _ _ => pts_t0) (fun _ _ _ _ _ => (se_bin od_sub (sb_var (pv 3)) (sb_var (pv 4)))))))) (by intro _; rfl))
    (ss_fz 1 (ss_one (ss_ret (se_of (so_callB (co_sorted (hu_r hr)) rfl W.b_sorted (by decide +kernel) (lb_cons (sb_var (pv 1)) lb_nil))))))))
theorem k_are_whole (W : Fx K mg base T a_OutOfRange a_CampError) : Kf P w K mg base T 2 "are_whole" 1 m_are_whole := by
  obtain ⟨f, fd, c, Q, Dq⟩ := W.d_are_whole
  have D0 := Dq.d
  exact fn_d (k := 1) D0 sc_are_whole fun cdv A outer s H E hcd hr =>
    (ss_cons (ss_set (i := 1) (se_callD ((k_lengths_of W).up (by omega)) hr (takes_of rfl rfl rfl rfl) (sa_cons (se_var (pv 0)) sa_nil)) sc_are_whole.nd rfl (by first | exact Or.inl rfl | exact Or.inr rfl))
    (ss_one (ss_ret (se_all (own := [("length", 2)]) (k := 0) Dq.tq hr rfl W.b_all (by decide +kernel) Dq.tb (hcd.symm.trans Dq.cd) (gsc_by (N := ["marks", "found", "length"]) (sc := defScope st_are_whole) (by decide +kernel)) sc_are_whole.nd (by decide) (si_r2 rfl W.b_range (sb se_int) (sb (se_bin od_add (sb (se_ix (sb_var (pv 0)) (sb (se_neg (sb se_int))))) (sb se_int)))) (fun _ _ _ _ _ _ _ _ => (sg_name (pg_name (i := 2) sc_are_whole.nd rfl (by first | exact Or.inl rfl | exact Or.inr rfl)))) (fun _ _ _ _ _ _ _ hr1 => pts_t0) (fun _ _ _ _ _ _ _ hr1 => (se_cmp (od_in2 (hu_r hr1)) (sb_var (pv 2)) (sb_var (pv 1)) (by first | rfl | exact nomark _)))))))
theorem k_are_single (W : Fx K mg base T a_OutOfRange a_CampError) : Kf P w K mg base T 2 "are_single" 1 m_are_single := by
  obtain ⟨f, fd, c, Q, Dq⟩ := W.d_are_single
  have D0 := Dq.d
  exact fn_d (k := 1) D0 sc_are_single fun cdv A outer s H E hcd hr =>
    (ss_cons (ss_set (i := 1) (se_callD ((k_lengths_of W).up (by omega)) hr (takes_of rfl rfl rfl rfl) (sa_cons (se_var (pv 0)) sa_nil)) sc_are_single.nd rfl (by first | exact Or.inl rfl | exact Or.inr rfl))
    (ss_one (ss_ret (se_all (own := [("place", 2)]) (k := 0) Dq.tq hr rfl W.b_all (by decide +kernel) Dq.tb (hcd.symm.trans Dq.cd) (gsc_by (N := ["marks", "found", "place"]) (sc := defScope st_are_single) (by decide +kernel)) sc_are_single.nd (by decide) (si_r1 rfl W.b_range (sb (se_bin od_sub (sb (se_callB cd_len rfl W.b_len (by decide +kernel) (lb_cons (sb_var (pv 1)) lb_nil))) (sb se_int)))) (fun _ _ _ _ _ _ _ _ => (sg_name (pg_name (i := 2) sc_are_single.nd rfl (by first | exact Or.inl rfl | exact Or.inr rfl)))) (fun _ _ _ _ _ _ _ hr1 => pts_t0) (fun _ _ _ _ _ _ _ hr1 => (se_cmp od_lt (sb (se_ix (sb_var (pv 1)) (sb_var (pv 2)))) (sb (se_ix (sb_var (pv 1)) (sb (se_bin od_add (sb_var (pv 2)) (sb se_int))))) (by first | rfl | exact nomark _)))))))
theorem k_all_marks (W : Fx K mg base T a_OutOfRange a_CampError) : Kf P w K mg base T 1 "all_marks" 2 m_all_marks := by
  obtain ⟨f, fd, D0⟩ := W.d_all_marks
  exact fn_d (k := 0) D0 sc_all_marks fun cdv A outer s H E hcd hr =>
    (ss_cons (ss_set (i := 2) (se_of (so_lst (sl_cons (se_tup (sl_cons se_int sl_nil)) sl_nil))) sc_all_marks.nd rfl (by first | exact Or.inl rfl | exact Or.inr rfl))
    (ss_cons (ss_for (passes_of rfl) rfl (si_r1 rfl W.b_range (sb (se_bin od_sub (sb_var (pv 1)) (sb se_int)))) (sg_name (pg_name (i := 3) sc_all_marks.nd rfl (by first | exact Or.inl rfl | exact Or.inr rfl)))
    (ss_cons (ss_setLc2 (i := 2) rfl sc_all_marks.nd rfl rfl (sw_true rfl rfl rfl rfl) (own := [("row", 4), ("mark", 5)]) (si_seq (se_var (pv 2))) (blkOk_by (N := ["length", "many", "found", "_", "row", "mark"]) (sc := defScope st_all_marks) (by decide +kernel)) (by decide) (fun _ z => z) (by decide) (fun _ _ _ _ _ => (sg_name (pg_name (i := 4) sc_all_marks.nd rfl (by first | exact Or.inl rfl | exact Or.inr rfl)))) (fun _ _ _ _ _ => pts_t0) (fun _ _ _ _ _ => (si_r2 rfl W.b_range (sb (se_bin od_add (sb (se_ix (sb_var (pv 4)) (sb (se_neg (sb se_int))))) (sb se_int))) (sb_var (pv 0)))) (fun _ _ _ _ _ => (sg_name (pg_name (i := 5) sc_all_marks.nd rfl (by first | exact Or.inl rfl | exact Or.inr rfl)))) (fun _ _ _ _ _ => pts_t0) (fun _ _ _ _ _ => (se_tup (sl_star (se_var (pv 4)) (sl_cons (se_var (pv 5)) sl_nil)))))
    (ss_fz 2 ss_nil)) (by intro _; rfl))
    (ss_one (ss_ret (se_of (so_lc rfl sc_all_marks.nd (own := [("row", 4)]) (si_seq (se_var (pv 2))) (blkOk_by (N := ["length", "many", "found", "_", "row", "mark"]) (sc := defScope st_all_marks) (by decide +kernel)) (by decide) (fun _ _ _ _ _ => (sg_name (pg_name (i := 4) sc_all_marks.nd rfl (by first | exact Or.inl rfl | exact Or.inr rfl)))) (fun _ _ _ _ _ => pts_t0) (fun _ _ _ _ _ => (se_tup (sl_star (se_var (pv 4)) (sl_cons (se_var (pv 0)) sl_nil))))))))))
theorem k_whole_marks (W : Fx K mg base T a_OutOfRange a_CampError) : Kf P w K mg base T 3 "whole_marks" 1 m_whole_marks := by
  obtain ⟨f, fd, D0⟩ := W.d_whole_marks
  exact fn_d (k := 2) D0 sc_whole_marks fun cdv A outer s H E hcd hr =>
    (ss_cons (ss_set (i := 1) se_int sc_whole_marks.nd rfl (by first | exact Or.inl rfl | exact Or.inr rfl))
    (ss_cons (ss_setLc (i := 2) rfl sc_whole_marks.nd rfl rfl (sw_true rfl rfl rfl rfl) (own := [("row", 3)]) (si_seq (se_callD ((k_all_marks W).up (by omega)) hr (takes_of rfl rfl rfl rfl) (sa_cons (se_var (pv 0)) (sa_cons (se_var (pv 1)) sa_nil)))) (blkOk_by (N := ["length", "many", "found", "row"]) (sc := defScope st_whole_marks) (by decide +kernel)) (by decide) (fun _ _ _ _ _ => (sg_name (pg_name (i := 3) sc_whole_marks.nd rfl (by first | exact Or.inl rfl | exact Or.inr rfl)))) (fun _ _ _ _ _ => (pts_t1 (st_val (sb (se_callD ((k_are_whole W).up (by omega)) hr takes0 (sa_cons (se_var (pv 3)) sa_nil)))))) (fun _ _ _ _ _ => (se_var (pv 3))))
    (ss_fz 2 (ss_cons (ss_while 16 (passes_of rfl) (st_cmp (od_eq (hu_r hr)) (sb (se_callB cd_len rfl W.b_len (by decide +kernel) (lb_cons (sb_var (pv 2)) lb_nil))) (sb se_int) (by first | rfl | exact nomark _))
    (ss_cons (ss_aug (i := 1) iod_add sc_whole_marks.nd rfl (by first | exact Or.inl rfl | exact Or.inr rfl) (sb se_int))
    (ss_cons (ss_setLc (i := 2) rfl sc_whole_marks.nd rfl rfl (sw_true rfl rfl rfl rfl) (own := [("row", 3)]) (si_seq (se_callD ((k_all_marks W).up (by omega)) hr (takes_of rfl rfl rfl rfl) (sa_cons (se_var (pv 0)) (sa_cons (se_var (pv 1)) sa_nil)))) (blkOk_by (N := ["length", "many", "found", "row"]) (sc := defScope st_whole_marks) (by decide +kernel)) (by decide) (fun _ _ _ _ _ => (sg_name (pg_name (i := 3) sc_whole_marks.nd rfl (by first | exact Or.inl rfl | exact Or.inr rfl)))) (fun _ _ _ _ _ => (pts_t1 (st_val (sb (se_callD ((k_are_whole W).up (by omega)) hr takes0 (sa_cons (se_var (pv 3)) sa_nil)))))) (fun _ _ _ _ _ => (se_var (pv 3))))
    (ss_fz 2 ss_nil))))
    (ss_one (ss_ret (se_callB (cd_min rfl (hu_r hr)) rfl W.b_min (by decide +kernel) (lb_cons (sb_var (pv 2)) lb_nil))))))))
theorem k_longest_whole (W : Fx K mg base T a_OutOfRange a_CampError) : Kf P w K mg base T 4 "longest_whole" 1 m_longest_whole := by
  obtain ⟨f, fd, c, Q, Dq⟩ := W.d_longest_whole
  have D0 := Dq.d
  exact fn_d (k := 3) D0 sc_longest_whole fun cdv A outer s H E hcd hr =>
    (ss_cons (ss_if (st_not (st_val (sb (se_callD ((k_is_number W).up (by omega)) hr (takes_of rfl rfl rfl rfl) (sa_cons (se_var (pv 0)) (sa_cons se_int (sa_cons se_int sa_nil)))))))
    (ss_one (ss_raise W.x_OutOfRange rfl (takes_of rfl rfl rfl rfl)))
    ss_nil)
    (ss_cons (ss_setLc (i := 1) rfl sc_longest_whole.nd rfl rfl (sw_true rfl rfl rfl rfl) (own := [("length", 2)]) (si_r2 rfl W.b_range (sb se_int) (sb (se_bin od_add (sb (se_gint W.c_MOST_LENGTH)) (sb se_int)))) (blkOk_by (N := ["m", "rows", "length", "row"]) (sc := defScope st_longest_whole) (by decide +kernel)) (by decide) (fun _ _ _ _ _ => (sg_name (pg_name (i := 2) sc_longest_whole.nd rfl (by first | exact Or.inl rfl | exact Or.inr rfl)))) (fun _ _ _ _ _ => (pts_t1 (st_val (sb (se_any (own := [("row", 3)]) (k := 2) Dq.tq hr rfl W.b_any Dq.tb (hcd.symm.trans Dq.cd) (gsc_by (by kernel_rfl)) sc_longest_whole.nd (by decide) (si_seq (se_callD ((k_all_marks W).up (by omega)) hr takes0 (sa_cons (se_var (pv 2)) (sa_cons (se_var (pv 0)) sa_nil)))) (fun _ _ _ _ _ _ _ _ => (sg_name (pg_name (i := 3) sc_longest_whole.nd rfl (by first | exact Or.inl rfl | exact Or.inr rfl)))) (fun _ _ _ _ _ _ _ hr1 => pts_t0) (fun _ _ _ _ _ _ _ hr1 => (se_callD ((k_are_whole W).up (by omega)) hr1 takes0 (sa_cons (se_var (pv 3)) sa_nil)))))))) (fun _ _ _ _ _ => (se_var (pv 2))))
    (ss_fz 1 (ss_one (ss_ret (se_callB (cd_max rfl (hu_r hr)) rfl W.b_max (by decide +kernel) (lb_cons (sb_var (pv 1)) lb_nil)))))))
theorem k_shortest_single (W : Fx K mg base T a_OutOfRange a_CampError) : Kf P w K mg base T 4 "shortest_single" 1 m_shortest_single := by
  obtain ⟨f, fd, c, Q, Dq⟩ := W.d_shortest_single
  have D0 := Dq.d
  exact fn_d (k := 3) D0 sc_shortest_single fun cdv A outer s H E hcd hr =>
    (ss_cons (ss_if (st_not (st_val (sb (se_callD ((k_is_number W).up (by omega)) hr (takes_of rfl rfl rfl rfl) (sa_cons (se_var (pv 0)) (sa_cons se_int (sa_cons se_int sa_nil)))))))
    (ss_one (ss_raise W.x_OutOfRange rfl (takes_of rfl rfl rfl rfl)))
    ss_nil)
    (ss_cons (ss_setLc (i := 1) rfl sc_shortest_single.nd rfl rfl (sw_true rfl rfl rfl rfl) (own := [("length", 2)]) (si_r2 rfl W.b_range (sb se_int) (sb (se_bin od_add (sb (se_gint W.c_MOST_LENGTH)) (sb se_int)))) (blkOk_by (N := ["m", "rows", "length", "row"]) (sc := defScope st_shortest_single) (by decide +kernel)) (by decide) (fun _ _ _ _ _ => (sg_name (pg_name (i := 2) sc_shortest_single.nd rfl (by first | exact Or.inl rfl | exact Or.inr rfl)))) (fun _ _ _ _ _ => (pts_t1 (st_val (sb (se_any (own := [("row", 3)]) (k := 2) Dq.tq hr rfl W.b_any Dq.tb (hcd.symm.trans Dq.cd) (gsc_by (by kernel_rfl)) sc_shortest_single.nd (by decide) (si_seq (se_callD ((k_all_marks W).up (by omega)) hr takes0 (sa_cons (se_var (pv 2)) (sa_cons (se_var (pv 0)) sa_nil)))) (fun _ _ _ _ _ _ _ _ => (sg_name (pg_name (i := 3) sc_shortest_single.nd rfl (by first | exact Or.inl rfl | exact Or.inr rfl)))) (fun _ _ _ _ _ _ _ hr1 => pts_t0) (fun _ _ _ _ _ _ _ hr1 => (se_callD ((k_are_single W).up (by omega)) hr1 takes0 (sa_cons (se_var (pv 3)) sa_nil)))))))) (fun _ _ _ _ _ => (se_var (pv 2))))
    (ss_fz 1 (ss_one (ss_ret (se_callB (cd_min rfl (hu_r hr)) rfl W.b_min (by decide +kernel) (lb_cons (sb_var (pv 1)) lb_nil)))))))
theorem k__law_draws (W : Fx K mg base T a_OutOfRange a_CampError) : KfO P w K mg base T 1 "_law_draws" 1 m__law_draws := by
  obtain ⟨f, fd, D0⟩ := W.d__law_draws
  exact fn_o (k := 0) D0 sc__law_draws fun cdv A outer s H E hcd hr =>
    (ss_cons (ss_own (i := 1) (so_lst sl_nil) sc__law_draws.nd rfl (by first | exact Or.inl rfl | exact Or.inr rfl))
    (ss_cons (ss_for (passes_of rfl) rfl (si_sc (pv 0)) (sg_name (pg_name (i := 2) sc__law_draws.nd rfl (by first | exact Or.inl rfl | exact Or.inr rfl)))
    (ss_cons (ss_set (i := 5) (se_callB cd_abs rfl W.b_abs (by decide +kernel) (lb_cons (sb_var (pv 2)) lb_nil)) sc__law_draws.nd rfl (by first | exact Or.inl rfl | exact Or.inr rfl))
    (ss_cons (ss_if (st_cmp od_lt (sb_var (pv 5)) (sb (se_bin od_pow (sb se_int) (sb se_int))) (by first | rfl | exact nomark _))
    (ss_cons (ss_set (i := 6) (se_bin od_mod (sb (se_callTy cd_int rfl W.b_int (by decide +kernel) (lb_cons (sb (se_bin od_add (sb (se_bin od_mul (sb_var (pv 5)) (sb se_int))) (sb se_int))) lb_nil))) (sb se_int)) sc__law_draws.nd rfl (by first | exact Or.inl rfl | exact Or.inr rfl))
    (ss_cons (ss_append (i := 1) (pv 1) (se_bin od_mod (sb (se_callTy cd_int rfl W.b_int (by decide +kernel) (lb_cons (sb (se_bin od_add (sb (se_bin od_mul (sb_var (pv 6)) (sb se_int))) (sb_var (pv 5)))) lb_nil))) (sb se_int)))
    (ss_cons (ss_append (i := 1) (pv 1) (se_bin od_mod (sb (se_callTy cd_int rfl W.b_int (by decide +kernel) (lb_cons (sb (se_bin od_add (sb_var (pv 6)) (sb (se_bin od_fdiv (sb_var (pv 5)) (sb se_int))))) lb_nil))) (sb se_int)))
    (ss_one (ss_set (i := 5) se_int sc__law_draws.nd rfl (by first | exact Or.inl rfl | exact Or.inr rfl))))))
    ss_nil)
    (ss_one (ss_for (passes_of rfl) rfl (si_r1 rfl W.b_range (sb se_int)) (sg_name (pg_name (i := 4) sc__law_draws.nd rfl (by first | exact Or.inl rfl | exact Or.inr rfl)))
    (ss_one (ss_if (st_cmp od_gt (sb_var (pv 5)) (sb se_int) (by first | rfl | exact nomark _))
    (ss_cons (ss_append (i := 1) (pv 1) (se_bin od_mod (sb (se_callTy cd_int rfl W.b_int (by decide +kernel) (lb_cons (sb_var (pv 5)) lb_nil))) (sb se_int)))
    (ss_one (ss_set (i := 5) (se_bin od_fdiv (sb_var (pv 5)) (sb se_int)) sc__law_draws.nd rfl (by first | exact Or.inl rfl | exact Or.inr rfl))))
    ss_nil)) (by intro _; rfl))))) (by intro _; rfl))
    (ss_cons (ss_set (i := 3) se_int sc__law_draws.nd rfl (by first | exact Or.inl rfl | exact Or.inr rfl))
    (ss_cons (ss_if (st_cmp od_gt (sb (se_drLen rfl W.b_len (by decide +kernel) (pv 0))) (sb se_int) (by first | rfl | exact nomark _))
    (ss_one (ss_set (i := 3) (se_bin od_add (sb se_int) (sb (se_callB cd_abs rfl W.b_abs (by decide +kernel) (lb_cons (sb (se_scIx (pv 0) se_int)) lb_nil)))) sc__law_draws.nd rfl (by first | exact Or.inl rfl | exact Or.inr rfl)))
    ss_nil)
    (ss_cons (ss_for (passes_of rfl) rfl (si_r1 rfl W.b_range (sb se_int)) (sg_name (pg_name (i := 4) sc__law_draws.nd rfl (by first | exact Or.inl rfl | exact Or.inr rfl)))
    (ss_cons (ss_set (i := 3) (se_bin od_mod (sb (se_callTy cd_int rfl W.b_int (by decide +kernel) (lb_cons (sb (se_bin od_add (sb (se_bin od_mul (sb_var (pv 3)) (sb se_int))) (sb se_int))) lb_nil))) (sb se_int)) sc__law_draws.nd rfl (by first | exact Or.inl rfl | exact Or.inr rfl))
    (ss_one (ss_append (i := 1) (pv 1) (se_bin od_fdiv (sb_var (pv 3)) (sb se_int))))) (by intro _; rfl))
    (ss_fz 1 (ss_one (ss_retO (so_rev rfl rfl W.b_list (by decide +kernel) rfl W.b_reversed (sb_var (pv 1)))))))))))
theorem k__law_take (W : Fx K mg base T a_OutOfRange a_CampError) : Kf P w K mg base T 1 "_law_take" 2 m__law_take := by
  obtain ⟨f, fd, D0⟩ := W.d__law_take
  exact fn_d (k := 0) D0 sc__law_take fun cdv A outer s H E hcd hr =>
    (ss_cons (ss_if (st_cmp (od_eq (hu_r hr)) (sb (se_drLen rfl W.b_len (by decide +kernel) (pv 0))) (sb se_int) (by first | rfl | exact nomark _))
    (ss_one (ss_ret se_int))
    ss_nil)
    (ss_one (ss_ret (se_bin od_mod (sb (se_callTy cd_int rfl W.b_int (by decide +kernel) (lb_cons (sb (se_drPop (pv 0))) lb_nil))) (sb_var (pv 1))))))
theorem k__law_same (W : Fx K mg base T a_OutOfRange a_CampError) : ∀ j : Nat, Kf P w K mg base T (1 + j) "_law_same" 2 (m__law_same j)
  | 0 => by obtain ⟨_, _, D0⟩ := W.d__law_same; exact kf_zero D0
  | j + 1 => by
    have ih := k__law_same W j
    obtain ⟨f, fd, D0⟩ := W.d__law_same
    exact fn_d (k := 1 + j) (sf := f__law_same (m__law_same j)) D0 sc__law_same fun cdv A outer s H E hcd hr =>
    (ss_cons (ss_if (PW.pt (sw_or (st_cmp od_is (sb_var (pv 1)) (sb se_non) (by first | rfl | exact nomark _)) (sw_or1 (st_cmp od_is (sb_var (pv 0)) (sb se_non) (by first | rfl | exact nomark _)))))
    (ss_one (ss_ret (se_and (se_cmp od_is (sb_var (pv 1)) (sb se_non) (by first | rfl | exact nomark _)) (se_one (se_cmp od_is (sb_var (pv 0)) (sb se_non) (by first | rfl | exact nomark _))))))
    ss_nil)
    (ss_cons (ss_if (PW.pt (sw_or (st_val (sb (se_is rfl W.b_isinstance (by decide +kernel) rfl W.b_tuple (by decide +kernel) (sb_var (pv 1))))) (sw_or1 (st_val (sb (se_is rfl W.b_isinstance (by decide +kernel) rfl W.b_list (by decide +kernel) (sb_var (pv 1))))))))
    (ss_cons (ss_if (PW.pt (sw_or (st_cmp (od_ne (hu_r hr)) (sb (se_is rfl W.b_isinstance (by decide +kernel) rfl W.b_tuple (by decide +kernel) (sb_var (pv 1)))) (sb (se_is rfl W.b_isinstance (by decide +kernel) rfl W.b_tuple (by decide +kernel) (sb_var (pv 0)))) (by first | rfl | exact nomark _)) (sw_or1 (st_cmp (od_ne (hu_r hr)) (sb (se_is rfl W.b_isinstance (by decide +kernel) rfl W.b_list (by decide +kernel) (sb_var (pv 1)))) (sb (se_is rfl W.b_isinstance (by decide +kernel) rfl W.b_list (by decide +kernel) (sb_var (pv 0)))) (by first | rfl | exact nomark _)))))
    (ss_one (ss_ret se_bl))
    ss_nil)
    (ss_cons (ss_if (st_cmp (od_ne (hu_r hr)) (sb (se_callB cd_len rfl W.b_len (by decide +kernel) (lb_cons (sb_var (pv 0)) lb_nil))) (sb (se_callB cd_len rfl W.b_len (by decide +kernel) (lb_cons (sb_var (pv 1)) lb_nil))) (by first | rfl | exact nomark _))
    (ss_one (ss_ret se_bl))
    ss_nil)
    (ss_cons (ss_for (passes_of rfl) rfl (si_r1 rfl W.b_range (sb (se_callB cd_len rfl W.b_len (by decide +kernel) (lb_cons (sb_var (pv 1)) lb_nil)))) (sg_name (pg_name (i := 2) sc__law_same.nd rfl (by first | exact Or.inl rfl | exact Or.inr rfl)))
    (ss_one (ss_if (st_not (st_val (sb (se_callD (ih.up (by omega)) hr (takes_of rfl rfl rfl rfl) (sa_cons (se_ix (sb_var (pv 0)) (sb_var (pv 2))) (sa_cons (se_ix (sb_var (pv 1)) (sb_var (pv 2))) sa_nil))))))
    (ss_one (ss_ret se_bl))
    ss_nil)) (by intro _; rfl))
    (ss_one (ss_ret se_bl)))))
    ss_nil)
    (ss_cons (ss_if (st_cmp (od_ne (hu_r hr)) (sb (se_is rfl W.b_isinstance (by decide +kernel) rfl W.b_bool (by decide +kernel) (sb_var (pv 1)))) (sb (se_is rfl W.b_isinstance (by decide +kernel) rfl W.b_bool (by decide +kernel) (sb_var (pv 0)))) (by first | rfl | exact nomark _))
    (ss_one (ss_ret se_bl))
    ss_nil)
    (ss_cons (ss_if (PW.pt (sw_or (st_cmp (od_ne (hu_r hr)) (sb (se_is rfl W.b_isinstance (by decide +kernel) rfl W.b_int (by decide +kernel) (sb_var (pv 1)))) (sb (se_is rfl W.b_isinstance (by decide +kernel) rfl W.b_int (by decide +kernel) (sb_var (pv 0)))) (by first | rfl | exact nomark _)) (sw_or1 (st_cmp (od_ne (hu_r hr)) (sb (se_is rfl W.b_isinstance (by decide +kernel) rfl W.b_str (by decide +kernel) (sb_var (pv 1)))) (sb (se_is rfl W.b_isinstance (by decide +kernel) rfl W.b_str (by decide +kernel) (sb_var (pv 0)))) (by first | rfl | exact nomark _)))))
    (ss_one (ss_ret se_bl))
    ss_nil)
    (ss_one (ss_ret (se_cmp (od_eq (hu_r hr)) (sb_var (pv 0)) (sb_var (pv 1)) (by first | rfl | exact nomark _))))))))
theorem k__law_told (W : Fx K mg base T a_OutOfRange a_CampError) : Kf P w K mg base T 5 "_law_told" 2 m__law_told := by
  obtain ⟨f, fd, D0⟩ := W.d__law_told
  exact fn_d (k := 4) D0 sc__law_told fun cdv A outer s H E hcd hr =>
    (ss_one (ss_tryIs (i := 2) W.x_OutOfRange W.xc_OutOfRange W.xk_OutOfRange W.xm_OutOfRange_CampError rfl rfl sc__law_told.nd rfl rfl ⟨rfl, by decide, Or.inl W.xg_CampError⟩ (takes_of rfl rfl rfl rfl) rfl W.b_isinstance (by decide +kernel) rfl W.b_int (by decide +kernel) rfl (by decide) (by decide) (by decide)
    (fun W0 pn xe tk po => (ss_cons (ss_if (st_cmp (od_eq (hu_r hr)) (sb_var (pv 0)) (sb se_int) (by first | rfl | exact nomark _))
    (ss_one (ss_ret (se_callD ((k_longest_whole W).up (by omega)) hr tk (sa_cons (se_var (pv 1)) sa_nil))))
    ss_nil)
    (ss_one (ss_ret (se_callD ((k_shortest_single W).up (by omega)) hr tk (sa_cons (se_var (pv 1)) sa_nil))))))))
theorem k__law_counts (W : Fx K mg base T a_OutOfRange a_CampError) : Kf P w K mg base T 1 "_law_counts" 1 m__law_counts := by
  obtain ⟨f, fd, D0⟩ := W.d__law_counts
  exact fn_d (k := 0) D0 sc__law_counts fun cdv A outer s H E hcd hr =>
    (ss_cons (ss_dnew (i := 1) sc__law_counts.nd rfl (by first | exact Or.inl rfl | exact Or.inr rfl))
    (ss_cons (ss_for (passes_of rfl) rfl (si_seq (se_var (pv 0))) (sg_name (pg_name (i := 2) sc__law_counts.nd rfl (by first | exact Or.inl rfl | exact Or.inr rfl)))
    (ss_one (ss_for (passes_of rfl) rfl (si_seq (se_var (pv 0))) (sg_name (pg_name (i := 3) sc__law_counts.nd rfl (by first | exact Or.inl rfl | exact Or.inr rfl)))
    (ss_one (ss_if (st_cmp od_lt (sb_var (pv 2)) (sb_var (pv 3)) (by first | rfl | exact nomark _))
    (ss_one (ss_dput (i := 1) (hu_r hr) (pv 1) (se_bin od_sub (sb_var (pv 3)) (sb_var (pv 2))) (se_bin od_add (sb (se_get2 (hu_r hr) (sb_var (pv 1)) (se_bin od_sub (sb_var (pv 3)) (sb_var (pv 2))) se_int ⟨rfl, rfl, rfl, rfl⟩)) (sb se_int))))
    ss_nil)) (by intro _; rfl))) (by intro _; rfl))
    (ss_fz 1 (ss_one (ss_ret (se_var (pv 1)))))))
theorem k__law_judged (W : Fx K mg base T a_OutOfRange a_CampError) : Kf P w K mg base T 2 "_law_judged" 1 m__law_judged := by
  obtain ⟨f, fd, D0⟩ := W.d__law_judged
  exact fn_d (k := 1) D0 sc__law_judged fun cdv A outer s H E hcd hr =>
    (ss_cons (ss_set (i := 1) (se_callD ((k__law_counts W).up (by omega)) hr (takes_of rfl rfl rfl rfl) (sa_cons (se_var (pv 0)) sa_nil)) sc__law_judged.nd rfl (by first | exact Or.inl rfl | exact Or.inr rfl))
    (ss_cons (ss_set (i := 2) (se_cmp (od_eq (hu_r hr)) (sb (se_of (so_lc rfl sc__law_judged.nd (own := [("length", 3)]) (si_r2 rfl W.b_range (sb se_int) (sb (se_bin od_add (sb (se_ix (sb_var (pv 0)) (sb (se_neg (sb se_int))))) (sb se_int)))) (blkOk_by (N := ["marks", "counts", "whole", "length"]) (sc := defScope st__law_judged) (by decide +kernel)) (by decide) (fun _ _ _ _ _ => (sg_name (pg_name (i := 3) sc__law_judged.nd rfl (by first | exact Or.inl rfl | exact Or.inr rfl)))) (fun _ _ _ _ _ => (pts_t1 (st_cmp (od_nin2 (hu_r hr)) (sb_var (pv 3)) (sb_var (pv 1)) (by first | rfl | exact nomark _)))) (fun _ _ _ _ _ => (se_var (pv 3)))))) (sb (se_of (so_lst sl_nil))) (by first | rfl | exact nomark _)) sc__law_judged.nd rfl (by first | exact Or.inl rfl | exact Or.inr rfl))
    (ss_one (ss_ret (se_tup (sl_cons (se_var (pv 2)) (sl_cons (se_cmp (od_eq (hu_r hr)) (sb (se_of (so_lc rfl sc__law_judged.nd (own := [("length", 3)]) (si_keys (se_var (pv 1))) (blkOk_by (N := ["marks", "counts", "whole", "length"]) (sc := defScope st__law_judged) (by decide +kernel)) (by decide) (fun _ _ _ _ _ => (sg_name (pg_name (i := 3) sc__law_judged.nd rfl (by first | exact Or.inl rfl | exact Or.inr rfl)))) (fun _ _ _ _ _ => (pts_t1 (st_cmp od_gt (sb (se_dix (hu_r hr) (sb_var (pv 1)) (sb_var (pv 3)))) (sb se_int) (by first | rfl | exact nomark _)))) (fun _ _ _ _ _ => (se_var (pv 3)))))) (sb (se_of (so_lst sl_nil))) (by first | rfl | exact nomark _)) sl_nil)))))))
theorem k__law_all (W : Fx K mg base T a_OutOfRange a_CampError) : Kf P w K mg base T 1 "_law_all" 1 m__law_all := by
  obtain ⟨f, fd, D0⟩ := W.d__law_all
  exact fn_d (k := 0) D0 sc__law_all fun cdv A outer s H E hcd hr =>
    (ss_cons (ss_set (i := 1) (se_of (so_lst (sl_cons (se_tup sl_nil) sl_nil))) sc__law_all.nd rfl (by first | exact Or.inl rfl | exact Or.inr rfl))
    (ss_cons (ss_for (passes_of rfl) rfl (si_r2 rfl W.b_range (sb se_int) (sb_var (pv 0))) (sg_name (pg_name (i := 2) sc__law_all.nd rfl (by first | exact Or.inl rfl | exact Or.inr rfl)))
    (ss_one (ss_set (i := 1) (se_bin od_add (sb_var (pv 1)) (sb (se_of (so_lc rfl sc__law_all.nd (own := [("row", 3)]) (si_seq (se_var (pv 1))) (blkOk_by (N := ["length", "found", "mark", "row"]) (sc := defScope st__law_all) (by decide +kernel)) (by decide) (fun _ _ _ _ _ => (sg_name (pg_name (i := 3) sc__law_all.nd rfl (by first | exact Or.inl rfl | exact Or.inr rfl)))) (fun _ _ _ _ _ => pts_t0) (fun _ _ _ _ _ => (se_bin od_add (sb_var (pv 3)) (sb (se_tup (sl_cons (se_var (pv 2)) sl_nil))))))))) sc__law_all.nd rfl (by first | exact Or.inl rfl | exact Or.inr rfl))) (by intro _; rfl))
    (ss_one (ss_ret (se_of (so_lc rfl sc__law_all.nd (own := [("row", 3)]) (si_seq (se_var (pv 1))) (blkOk_by (N := ["length", "found", "mark", "row"]) (sc := defScope st__law_all) (by decide +kernel)) (by decide) (fun _ _ _ _ _ => (sg_name (pg_name (i := 3) sc__law_all.nd rfl (by first | exact Or.inl rfl | exact Or.inr rfl)))) (fun _ _ _ _ _ => pts_t0) (fun _ _ _ _ _ => (se_bin od_add (sb (se_bin od_add (sb (se_tup (sl_cons se_int sl_nil))) (sb_var (pv 3)))) (sb (se_tup (sl_cons (se_var (pv 0)) sl_nil)))))))))))
theorem k_law (W : Fx K mg base T a_OutOfRange a_CampError) {f : Addr} {fd : FuncData} (D0 : Df K mg "law" st_law ["script"] f fd) : FnOk P w K mg base (L2.CX P w) 7 f fd ["script"] (spLaw ⟨K, mg, T⟩ (LawTrue 1 20 f_law0 f_law)) := by
  exact fn_law (k := 6) D0 sc_law (by decide) (by decide) (by decide) rfl (fun cdv A outer s H E hcd hr => ps_set (i := 1) sc_law.nd rfl (by first | exact Or.inl rfl | exact Or.inr rfl) (so_callD ((k__law_draws W).up (by omega)) hr (takes_of rfl rfl rfl rfl) (sa_sl (pv 0) sa_nil)))
    (fun cdv A outer s H E hcd hr =>
    (ss_cons (ss_set (i := 2) (se_bin od_add (sb se_int) (sb (se_callD ((k__law_take W).up (by omega)) hr (takes_of rfl rfl rfl rfl) (sa_sl (pv 1) (sa_cons se_int sa_nil))))) sc_law.nd rfl (by first | exact Or.inl rfl | exact Or.inr rfl))
    (ss_cons (ss_set (i := 3) (se_callD ((k__law_all W).up (by omega)) hr (takes_of rfl rfl rfl rfl) (sa_cons (se_var (pv 2)) sa_nil)) sc_law.nd rfl (by first | exact Or.inl rfl | exact Or.inr rfl))
    (ss_cons (ss_setLc (i := 4) rfl sc_law.nd rfl rfl (sw_true rfl rfl rfl rfl) (own := [("row", 18)]) (si_seq (se_var (pv 3))) (blkOk_by (N := ["script", "draws", "length", "every", "table", "turn", "both", "m", "longest", "shortest", "fits", "singles", "wrong", "marks", "whole", "single", "back", "pairs", "row", "one"]) (sc := defScope st_law) (by decide +kernel)) (by decide) (fun _ _ _ _ _ => (sg_name (pg_name (i := 18) sc_law.nd rfl (by first | exact Or.inl rfl | exact Or.inr rfl)))) (fun _ _ _ _ _ => (pts_t1 (st_val (sb (se_ix (sb (se_callD ((k__law_judged W).up (by omega)) hr takes0 (sa_cons (se_var (pv 18)) sa_nil))) (sb se_int)))))) (fun _ _ _ _ _ => (se_tup (sl_cons (se_callB cd_len rfl W.b_len (by decide +kernel) (lb_cons (sb_var (pv 18)) lb_nil)) (sl_cons (se_var (pv 18)) sl_nil)))))
    (ss_fz 4 (ss_cons (ss_if (st_not (st_val (sb (se_callD ((k__law_same W 4).up (by omega)) hr (takes_of rfl rfl rfl rfl) (sa_cons (se_callD ((k_whole_marks W).up (by omega)) hr (takes_of rfl rfl rfl rfl) (sa_cons (se_var (pv 2)) sa_nil)) (sa_cons (se_ix (sb (se_callB (cd_min rfl (hu_r hr)) rfl W.b_min (by decide +kernel) (lb_cons (sb_var (pv 4)) lb_nil))) (sb se_int)) sa_nil))))))
    (ss_one (ss_ret se_bl))
    ss_nil)
    (ss_cons (ss_for (passes_of rfl) rfl (si_r1 rfl W.b_range (sb se_int)) (sg_name (pg_name (i := 5) sc_law.nd rfl (by first | exact Or.inl rfl | exact Or.inr rfl)))
    (ss_cons (ss_set (i := 13) (se_ix (sb_var (pv 3)) (sb (se_callD ((k__law_take W).up (by omega)) hr (takes_of rfl rfl rfl rfl) (sa_sl (pv 1) (sa_cons (se_callB cd_len rfl W.b_len (by decide +kernel) (lb_cons (sb_var (pv 3)) lb_nil)) sa_nil))))) sc_law.nd rfl (by first | exact Or.inl rfl | exact Or.inr rfl))
    (ss_cons (ss_asg (se_callD ((k__law_judged W).up (by omega)) hr (takes_of rfl rfl rfl rfl) (sa_cons (se_var (pv 13)) sa_nil)) (sg_tup rfl (sgs_cons (sg_name (pg_name (i := 14) sc_law.nd rfl (by first | exact Or.inl rfl | exact Or.inr rfl))) (sgs_cons (sg_name (pg_name (i := 15) sc_law.nd rfl (by first | exact Or.inl rfl | exact Or.inr rfl))) sgs_nil))))
    (ss_cons (ss_set (i := 16) (se_callTy cd_tuple rfl W.b_tuple (by decide +kernel) (lb_cons (sb (se_of (so_lc rfl sc_law.nd (own := [("one", 19)]) (si_seq (se_rev (sb_var (pv 13)))) (blkOk_by (N := ["script", "draws", "length", "every", "table", "turn", "both", "m", "longest", "shortest", "fits", "singles", "wrong", "marks", "whole", "single", "back", "pairs", "row", "one"]) (sc := defScope st_law) (by decide +kernel)) (by decide) (fun _ _ _ _ _ => (sg_name (pg_name (i := 19) sc_law.nd rfl (by first | exact Or.inl rfl | exact Or.inr rfl)))) (fun _ _ _ _ _ => pts_t0) (fun _ _ _ _ _ => (se_bin od_sub (sb_var (pv 2)) (sb_var (pv 19))))))) lb_nil)) sc_law.nd rfl (by first | exact Or.inl rfl | exact Or.inr rfl))
    (ss_cons (ss_if (PW.pt (sw_or (st_cmp od_nis (sb (se_callD ((k_are_marks W).up (by omega)) hr (takes_of rfl rfl rfl rfl) (sa_cons (se_var (pv 2)) (sa_cons (se_var (pv 13)) sa_nil)))) (sb se_bl) (by first | rfl | exact nomark _)) (sw_or1 (st_not (st_val (sb (se_callD ((k__law_same W 4).up (by omega)) hr (takes_of rfl rfl rfl rfl) (sa_cons (se_of (so_lst (sl_cons (se_callD ((k_are_whole W).up (by omega)) hr (takes_of rfl rfl rfl rfl) (sa_cons (se_var (pv 13)) sa_nil)) (sl_cons (se_callD ((k_are_single W).up (by omega)) hr (takes_of rfl rfl rfl rfl) (sa_cons (se_var (pv 13)) sa_nil)) (sl_cons (se_callD ((k_are_whole W).up (by omega)) hr (takes_of rfl rfl rfl rfl) (sa_cons (se_var (pv 16)) sa_nil)) (sl_cons (se_callD ((k_are_single W).up (by omega)) hr (takes_of rfl rfl rfl rfl) (sa_cons (se_var (pv 16)) sa_nil)) sl_nil)))))) (sa_cons (se_of (so_lst (sl_cons (se_var (pv 14)) (sl_cons (se_var (pv 15)) (sl_cons (se_var (pv 14)) (sl_cons (se_var (pv 15)) sl_nil)))))) sa_nil)))))))))
    (ss_one (ss_ret se_bl))
    ss_nil)
    (ss_cons (ss_set (i := 17) (se_bin od_fdiv (sb (se_bin od_mul (sb (se_callB cd_len rfl W.b_len (by decide +kernel) (lb_cons (sb_var (pv 13)) lb_nil))) (sb (se_bin od_sub (sb (se_callB cd_len rfl W.b_len (by decide +kernel) (lb_cons (sb_var (pv 13)) lb_nil))) (sb se_int))))) (sb se_int)) sc_law.nd rfl (by first | exact Or.inl rfl | exact Or.inr rfl))
    (ss_one (ss_if (PW.pt (sw_or (PW.pt (sw_and (st_val (sb_var (pv 14))) (sw_and1 (st_cmp od_lt (sb_var (pv 17)) (sb_var (pv 2)) (by first | rfl | exact nomark _))))) (sw_or1 (PW.pt (sw_and (st_val (sb_var (pv 15))) (sw_and1 (st_cmp od_gt (sb_var (pv 17)) (sb_var (pv 2)) (by first | rfl | exact nomark _))))))))
    (ss_one (ss_ret se_bl))
    ss_nil))))))) (by intro _; rfl))
    (ss_cons (ss_setLc (i := 6) rfl sc_law.nd rfl rfl (sw_true rfl rfl rfl rfl) (own := [("row", 18)]) (si_seq (se_var (pv 3))) (blkOk_by (N := ["script", "draws", "length", "every", "table", "turn", "both", "m", "longest", "shortest", "fits", "singles", "wrong", "marks", "whole", "single", "back", "pairs", "row", "one"]) (sc := defScope st_law) (by decide +kernel)) (by decide) (fun _ _ _ _ _ => (sg_name (pg_name (i := 18) sc_law.nd rfl (by first | exact Or.inl rfl | exact Or.inr rfl)))) (fun _ _ _ _ _ => (pts_t1 (st_cmp (od_eq (hu_r hr)) (sb (se_callD ((k__law_judged W).up (by omega)) hr takes0 (sa_cons (se_var (pv 18)) sa_nil))) (sb (se_tup (sl_cons se_bl (sl_cons se_bl sl_nil)))) (by first | rfl | exact nomark _)))) (fun _ _ _ _ _ => (se_var (pv 18))))
    (ss_fz 6 (ss_cons (ss_if (st_cmp (od_ne (hu_r hr)) (sb (se_cmp (od_ne (hu_r hr)) (sb_var (pv 6)) (sb (se_of (so_lst sl_nil))) (by first | rfl | exact nomark _))) (sb (se_cmp (od_in2 (hu_r hr)) (sb_var (pv 2)) (sb (se_tup (sl_cons se_int (sl_cons se_int (sl_cons se_int sl_nil))))) (by first | rfl | exact nomark _))) (by first | rfl | exact nomark _))
    (ss_one (ss_ret se_bl))
    ss_nil)
    (ss_cons (ss_set (i := 7) (se_bin od_add (sb se_int) (sb (se_callD ((k__law_take W).up (by omega)) hr (takes_of rfl rfl rfl rfl) (sa_sl (pv 1) (sa_cons se_int sa_nil))))) sc_law.nd rfl (by first | exact Or.inl rfl | exact Or.inr rfl))
    (ss_cons (ss_par (i := 8) (j := 9) rfl sc_law.nd rfl rfl (by decide) rfl rfl (sl_cons (se_callD ((k__law_told W).up (by omega)) hr (takes_of rfl rfl rfl rfl) (sa_cons se_int (sa_cons (se_var (pv 7)) sa_nil))) (sl_cons (se_callD ((k__law_told W).up (by omega)) hr (takes_of rfl rfl rfl rfl) (sa_cons se_int (sa_cons (se_var (pv 7)) sa_nil))) sl_nil)) rfl)
    (ss_cons (ss_setLc (i := 10) rfl sc_law.nd rfl rfl (sw_true rfl rfl rfl rfl) (own := [("row", 18)]) (si_seq (se_var (pv 3))) (blkOk_by (N := ["script", "draws", "length", "every", "table", "turn", "both", "m", "longest", "shortest", "fits", "singles", "wrong", "marks", "whole", "single", "back", "pairs", "row", "one"]) (sc := defScope st_law) (by decide +kernel)) (by decide) (fun _ _ _ _ _ => (sg_name (pg_name (i := 18) sc_law.nd rfl (by first | exact Or.inl rfl | exact Or.inr rfl)))) (fun _ _ _ _ _ => (pts_t1 (PW.pt (sw_and (st_cmp (od_eq (hu_r hr)) (sb (se_callB cd_len rfl W.b_len (by decide +kernel) (lb_cons (sb_var (pv 18)) lb_nil))) (sb_var (pv 7)) (by first | rfl | exact nomark _)) (sw_and1 (st_val (sb (se_ix (sb (se_callD ((k__law_judged W).up (by omega)) hr takes0 (sa_cons (se_var (pv 18)) sa_nil))) (sb se_int))))))))) (fun _ _ _ _ _ => (se_var (pv 18))))
    (ss_fz 10 (ss_cons (ss_setLc (i := 11) rfl sc_law.nd rfl rfl (sw_true rfl rfl rfl rfl) (own := [("row", 18)]) (si_seq (se_var (pv 3))) (blkOk_by (N := ["script", "draws", "length", "every", "table", "turn", "both", "m", "longest", "shortest", "fits", "singles", "wrong", "marks", "whole", "single", "back", "pairs", "row", "one"]) (sc := defScope st_law) (by decide +kernel)) (by decide) (fun _ _ _ _ _ => (sg_name (pg_name (i := 18) sc_law.nd rfl (by first | exact Or.inl rfl | exact Or.inr rfl)))) (fun _ _ _ _ _ => (pts_t1 (PW.pt (sw_and (st_cmp (od_eq (hu_r hr)) (sb (se_callB cd_len rfl W.b_len (by decide +kernel) (lb_cons (sb_var (pv 18)) lb_nil))) (sb_var (pv 7)) (by first | rfl | exact nomark _)) (sw_and1 (st_val (sb (se_ix (sb (se_callD ((k__law_judged W).up (by omega)) hr takes0 (sa_cons (se_var (pv 18)) sa_nil))) (sb se_int))))))))) (fun _ _ _ _ _ => (se_var (pv 18))))
    (ss_fz 11 (ss_cons (ss_if (PW.pt (sw_or (st_cmp (od_ne (hu_r hr)) (sb (se_of (so_lst (sl_cons (se_var (pv 8)) (sl_cons (se_var (pv 9)) sl_nil))))) (sb (se_ix (sb (se_of (so_lst (sl_cons (se_of (so_lst (sl_cons se_int (sl_cons se_int sl_nil)))) (sl_cons (se_of (so_lst (sl_cons se_int (sl_cons se_int sl_nil)))) (sl_cons (se_of (so_lst (sl_cons se_int (sl_cons se_int sl_nil)))) (sl_cons (se_of (so_lst (sl_cons se_int (sl_cons se_int sl_nil)))) sl_nil))))))) (sb (se_bin od_sub (sb_var (pv 7)) (sb se_int))))) (by first | rfl | exact nomark _)) (sw_or (PW.pt (sw_and (st_cmp (od_ne (hu_r hr)) (sb_var (pv 10)) (sb (se_of (so_lst sl_nil))) (by first | rfl | exact nomark _)) (sw_and1 (st_cmp od_gt (sb_var (pv 2)) (sb_var (pv 8)) (by first | rfl | exact nomark _))))) (sw_or1 (PW.pt (sw_and (st_cmp (od_ne (hu_r hr)) (sb_var (pv 11)) (sb (se_of (so_lst sl_nil))) (by first | rfl | exact nomark _)) (sw_and1 (st_cmp od_lt (sb_var (pv 2)) (sb_var (pv 9)) (by first | rfl | exact nomark _)))))))))
    (ss_one (ss_ret se_bl))
    ss_nil)
    (ss_cons (ss_if (PW.pt (sw_or (PW.pt (sw_and (st_cmp (od_eq (hu_r hr)) (sb_var (pv 2)) (sb_var (pv 8)) (by first | rfl | exact nomark _)) (sw_and1 (st_cmp (od_eq (hu_r hr)) (sb_var (pv 10)) (sb (se_of (so_lst sl_nil))) (by first | rfl | exact nomark _))))) (sw_or1 (PW.pt (sw_and (st_cmp (od_eq (hu_r hr)) (sb_var (pv 2)) (sb_var (pv 9)) (by first | rfl | exact nomark _)) (sw_and1 (st_cmp (od_eq (hu_r hr)) (sb_var (pv 11)) (sb (se_of (so_lst sl_nil))) (by first | rfl | exact nomark _))))))))
    (ss_one (ss_ret se_bl))
    ss_nil)
    (ss_cons (ss_if (PW.pt (sw_or (st_cmp (od_ne (hu_r hr)) (sb (se_bin od_add (sb (se_of (so_lc rfl sc_law.nd (own := [("one", 19)]) (si_seq (se_of (so_lst (sl_cons se_int (sl_cons se_int sl_nil))))) (blkOk_by (N := ["script", "draws", "length", "every", "table", "turn", "both", "m", "longest", "shortest", "fits", "singles", "wrong", "marks", "whole", "single", "back", "pairs", "row", "one"]) (sc := defScope st_law) (by decide +kernel)) (by decide) (fun _ _ _ _ _ => (sg_name (pg_name (i := 19) sc_law.nd rfl (by first | exact Or.inl rfl | exact Or.inr rfl)))) (fun _ _ _ _ _ => pts_t0) (fun _ _ _ _ _ => (se_callD ((k__law_told W).up (by omega)) hr takes0 (sa_cons se_int (sa_cons (se_var (pv 19)) sa_nil))))))) (sb (se_of (so_lc rfl sc_law.nd (own := [("one", 19)]) (si_seq (se_of (so_lst (sl_cons se_int (sl_cons se_int sl_nil))))) (blkOk_by (N := ["script", "draws", "length", "every", "table", "turn", "both", "m", "longest", "shortest", "fits", "singles", "wrong", "marks", "whole", "single", "back", "pairs", "row", "one"]) (sc := defScope st_law) (by decide +kernel)) (by decide) (fun _ _ _ _ _ => (sg_name (pg_name (i := 19) sc_law.nd rfl (by first | exact Or.inl rfl | exact Or.inr rfl)))) (fun _ _ _ _ _ => pts_t0) (fun _ _ _ _ _ => (se_callD ((k__law_told W).up (by omega)) hr takes0 (sa_cons se_int (sa_cons (se_var (pv 19)) sa_nil))))))))) (sb (se_bin od_mul (sb (se_of (so_lst (sl_cons se_str sl_nil)))) (sb se_int))) (by first | rfl | exact nomark _)) (sw_or1 (st_cmp (od_ne (hu_r hr)) (sb (se_callD ((k__law_told W).up (by omega)) hr (takes_of rfl rfl rfl rfl) (sa_cons se_int (sa_cons se_int sa_nil)))) (sb se_int) (by first | rfl | exact nomark _)))))
    (ss_one (ss_ret se_bl))
    ss_nil)
    (ss_cons (ss_set (i := 12) (se_of (so_lst (sl_cons (se_of (so_callTy co_list rfl W.b_list (by decide +kernel) (lb_cons (sb_var (pv 13)) lb_nil))) (sl_cons (se_tup sl_nil) (sl_cons (se_tup (sl_cons se_int sl_nil)) (sl_cons (se_tup (sl_cons (se_var (pv 2)) sl_nil)) (sl_cons se_non (sl_cons se_str (sl_cons (se_tup (sl_cons se_int (sl_cons (se_var (pv 2)) sl_nil))) (sl_cons (se_tup (sl_cons se_int (sl_cons (se_bin od_add (sb_var (pv 2)) (sb se_int)) sl_nil))) (sl_cons (se_tup (sl_cons se_int (sl_cons (se_var (pv 2)) (sl_cons (se_var (pv 2)) sl_nil)))) (sl_cons (se_tup (sl_cons se_int (sl_cons se_non sl_nil))) (sl_cons (se_tup (sl_cons se_bl (sl_cons (se_var (pv 2)) sl_nil))) (sl_cons (se_tup (sl_cons se_int (sl_cons (se_neg (sb se_int)) (sl_cons (se_var (pv 2)) sl_nil)))) (sl_cons (se_tup (sl_cons se_int (sl_cons se_str (sl_cons (se_var (pv 2)) sl_nil)))) sl_nil))))))))))))))) sc_law.nd rfl (by first | exact Or.inl rfl | exact Or.inr rfl))
    (ss_one (ss_ret (se_cmp (od_eq (hu_r hr)) (sb (se_of (so_lc rfl sc_law.nd (own := [("one", 19)]) (si_seq (se_var (pv 12))) (blkOk_by (N := ["script", "draws", "length", "every", "table", "turn", "both", "m", "longest", "shortest", "fits", "singles", "wrong", "marks", "whole", "single", "back", "pairs", "row", "one"]) (sc := defScope st_law) (by decide +kernel)) (by decide) (fun _ _ _ _ _ => (sg_name (pg_name (i := 19) sc_law.nd rfl (by first | exact Or.inl rfl | exact Or.inr rfl)))) (fun _ _ _ _ _ => (pts_t1 (st_cmp od_nis (sb (se_callD ((k_are_marks W).up (by omega)) hr takes0 (sa_cons (se_var (pv 2)) (sa_cons (se_var (pv 19)) sa_nil)))) (sb se_bl) (by first | rfl | exact nomark _)))) (fun _ _ _ _ _ => (se_var (pv 19)))))) (sb (se_of (so_lst sl_nil))) (by first | rfl | exact nomark _))))))))))))))))))))))))
end
end K98

set_option Elab.async false
set_option linter.all false
set_option maxRecDepth 100000
set_option maxHeartbeats 4000000
/-! DM1: how the mirrors are evaluated -/
namespace DM
open PySem PySem.Spec L2 DL DG PyProof.Rows PySem.W
section
variable {α β : Type} {w w1 : Wd} {a : α} {f : α → Wd → R β} {c : Str}
@[simp] theorem bind_ok : R.bind (.ok a w) f = f a w := Eq.trans rfl rfl
@[simp] theorem bind_exc : R.bind (.exc c w : R α) f = .exc c w := Eq.trans rfl rfl
@[simp] theorem bindS_ok {k : α → Wd → RS} : bindS (.ok a w) k = k a w := Eq.trans rfl rfl
@[simp] theorem bindS_exc {k : α → Wd → RS} : bindS (.exc c w) k = .exc c w := Eq.trans rfl rfl
@[simp] theorem of_some : R.of w (some a) = .ok a w := Eq.trans rfl rfl
@[simp] theorem calm_ok : R.calm (.ok a w) = .ok a w := Eq.trans rfl rfl
@[simp] theorem seqK_nx {ρ : Ev} {g : Sf} : seqK (.nx ρ w) g = g ρ w := Eq.trans rfl rfl
@[simp] theorem seqK_rt {d : D} {g : Sf} : seqK (.rt d w) g = .rt d w := Eq.trans rfl rfl
@[simp] theorem seqK_ro {d : List D} {g : Sf} : seqK (.ro d w) g = .ro d w := Eq.trans rfl rfl
@[simp] theorem seqK_exc {g : Sf} : seqK (.exc c w) g = .exc c w := Eq.trans rfl rfl
@[simp] theorem ofO_some {ρ : Ev} : ofO w (some ρ) = .nx ρ w := Eq.trans rfl rfl
end
def fnR : RS → R D
  | .nx _ w => .ok .none w
  | .rt d w => .ok d w
  | .exc c w => .exc c w
  | _ => .bad
theorem fnD_eq (n N : Nat) (body : Sf) (ss : List Sl) (w : Wd) : fnD n N body ss w = fnR (body (ent n N ss) w) := by
  unfold fnD
  cases body (ent n N ss) w <;> rfl
@[simp] theorem fnR_rt {d : D} {w : Wd} : fnR (.rt d w) = .ok d w := rfl
@[simp] theorem fnR_nx {ρ : Ev} {w : Wd} : fnR (.nx ρ w) = .ok .none w := rfl
@[simp] theorem fnR_exc {c : Str} {w : Wd} : fnR (.exc c w) = .exc c w := rfl
theorem big : sizeLine = 16777216 := by decide
/-! ### loops and comprehensions -/
theorem lcL_pure {tgt : Tg} {tt : Ev → Wd → R Bool} {fe : Ef} {ρ : Ev} {w : Wd} (p : D → Bool) (g : D → D) : ∀ ds : List D, (∀ d ∈ ds, ∃ ρ1, tgt d ρ = some ρ1 ∧ tt ρ1 w = .ok (p d) w ∧ (p d = true → fe ρ1 w = .ok (g d) w)) →
    lcL tgt tt fe ρ ds w = .ok ((ds.filter p).map g) w
  | [], _ => rfl
  | d :: ds, h => by
    obtain ⟨ρ1, h1, h2, h3⟩ := h d List.mem_cons_self
    have ih := lcL_pure p g ds fun x hx => h x (List.mem_cons_of_mem _ hx)
    unfold lcL
    rw [h1]
    dsimp only
    rw [h2, bind_ok]
    cases e : p d with
    | true => rw [if_pos rfl, h3 e, bind_ok, ih, bind_ok, List.filter_cons_of_pos (by rw [e]), List.map_cons]
    | false => rw [if_neg (by decide), ih, List.filter_cons_of_neg (by rw [e]; decide)]
theorem oLc_pure {fi : Ev → Wd → R (List D)} {tgt : Tg} {tt : Ev → Wd → R Bool} {fe : Ef} {vs : List Nat} {ρ : Ev} {w w1 : Wd} {ds : List D} (p : D → Bool) (g : D → D) (hi : fi ρ w = .ok ds w1) (hl : ds.length ≤ sizeLine)
    (h : ∀ d ∈ ds, ∃ ρ1, tgt d (wipeE ρ vs) = some ρ1 ∧ tt ρ1 w1 = .ok (p d) w1 ∧ (p d = true → fe ρ1 w1 = .ok (g d) w1)) : oLc fi tgt tt fe vs ρ w = .ok ((ds.filter p).map g) w1 := by
  unfold oLc
  rw [hi, bind_ok, if_pos hl, lcL_pure p g ds h, calm_ok]
/-- over the images of xs -/
theorem oLc_map {α β : Type} {fi : Ev → Wd → R (List D)} {tgt : Tg} {tt : Ev → Wd → R Bool} {fe : Ef} {vs : List Nat} {ρ : Ev} {w w1 : Wd} {xs : List α} (m : α → D) (n : β → D) (p : α → Bool) (g : α → β) (hi : fi ρ w = .ok (xs.map m) w1) (hl : xs.length ≤ sizeLine)
    (h : ∀ x ∈ xs, ∃ ρ1, tgt (m x) (wipeE ρ vs) = some ρ1 ∧ tt ρ1 w1 = .ok (p x) w1 ∧ (p x = true → fe ρ1 w1 = .ok (n (g x)) w1)) : oLc fi tgt tt fe vs ρ w = .ok (((xs.filter p).map g).map n) w1 := by
  unfold oLc
  rw [hi, bind_ok, if_pos (by rw [List.length_map]; exact hl)]
  have : ∀ xs : List α, (∀ x ∈ xs, ∃ ρ1, tgt (m x) (wipeE ρ vs) = some ρ1 ∧ tt ρ1 w1 = .ok (p x) w1 ∧ (p x = true → fe ρ1 w1 = .ok (n (g x)) w1)) → lcL tgt tt fe (wipeE ρ vs) (xs.map m) w1 = .ok (((xs.filter p).map g).map n) w1 := fun xs => by
    induction xs with
    | nil => intro _; rfl
    | cons d ds ih =>
      intro h
      obtain ⟨ρ1, h1, h2, h3⟩ := h d List.mem_cons_self
      have ih := ih fun x hx => h x (List.mem_cons_of_mem _ hx)
      rw [List.map_cons]
      unfold lcL
      rw [h1]
      dsimp only
      rw [h2, bind_ok]
      cases e : p d with
      | true => rw [if_pos rfl, h3 e, bind_ok, ih, bind_ok, List.filter_cons_of_pos (by rw [e]), List.map_cons, List.map_cons]
      | false => rw [if_neg (by decide), ih, List.filter_cons_of_neg (by rw [e]; decide)]
  rw [this xs h, calm_ok]
/-- all(..), any(..) -/
theorem eGen_map {α : Type} {c : Bool} {fi : Ev → Wd → R (List D)} {tgt : Tg} {tt : Ev → Wd → R Bool} {fe : Ef} {vs : List Nat} {ρ : Ev} {w w1 : Wd} {xs : List α} (m : α → D) (q : α → Bool) (hi : fi ρ w = .ok (xs.map m) w1)
    (h : ∀ x ∈ xs, ∃ ρ1, tgt (m x) (wipeE ρ vs) = some ρ1 ∧ tt ρ1 w1 = .ok true w1 ∧ fe ρ1 w1 = .ok (.bool (q x)) w1) : eGen c fi tgt tt fe vs ρ w = .ok (.bool (if c = true then xs.all q else xs.any q)) w1 := by
  unfold eGen
  rw [hi, bind_ok]
  have : ∀ xs : List α, (∀ x ∈ xs, ∃ ρ1, tgt (m x) (wipeE ρ vs) = some ρ1 ∧ tt ρ1 w1 = .ok true w1 ∧ fe ρ1 w1 = .ok (.bool (q x)) w1) → gnL c tgt tt fe (wipeE ρ vs) (xs.map m) w1 = .ok (.bool (if c = true then xs.all q else xs.any q)) w1 := fun xs => by
    induction xs with
    | nil => intro _; cases c <;> rfl
    | cons d ds ih =>
      intro h
      obtain ⟨ρ1, h1, h2, h3⟩ := h d List.mem_cons_self
      have ih := ih fun x hx => h x (List.mem_cons_of_mem _ hx)
      rw [List.map_cons]
      unfold gnL
      rw [h1]
      dsimp only
      rw [h2, bind_ok, if_pos rfl, h3, bind_ok]
      dsimp only
      cases c <;> cases e : q d <;> simp [e, ih]
  rw [this xs h, calm_ok]
theorem eAll_map {α : Type} {fi : Ev → Wd → R (List D)} {tgt : Tg} {tt : Ev → Wd → R Bool} {fe : Ef} {vs : List Nat} {ρ : Ev} {w w1 : Wd} {xs : List α} (m : α → D) (q : α → Bool) (hi : fi ρ w = .ok (xs.map m) w1)
    (h : ∀ x ∈ xs, ∃ ρ1, tgt (m x) (wipeE ρ vs) = some ρ1 ∧ tt ρ1 w1 = .ok true w1 ∧ fe ρ1 w1 = .ok (.bool (q x)) w1) : eGen true fi tgt tt fe vs ρ w = .ok (.bool (xs.all q)) w1 := eGen_map (c := true) m q hi h
theorem eAny_map {α : Type} {fi : Ev → Wd → R (List D)} {tgt : Tg} {tt : Ev → Wd → R Bool} {fe : Ef} {vs : List Nat} {ρ : Ev} {w w1 : Wd} {xs : List α} (m : α → D) (q : α → Bool) (hi : fi ρ w = .ok (xs.map m) w1)
    (h : ∀ x ∈ xs, ∃ ρ1, tgt (m x) (wipeE ρ vs) = some ρ1 ∧ tt ρ1 w1 = .ok true w1 ∧ fe ρ1 w1 = .ok (.bool (q x)) w1) : eGen false fi tgt tt fe vs ρ w = .ok (.bool (xs.any q)) w1 := eGen_map (c := false) m q hi h
/-- a for loop that runs to its end: what holds of the items done -/
theorem forL_inv {α : Type} (m : α → D) {tgt : Tg} {body : Sf} (I : List α → Ev → Wd → Prop) : ∀ (post pre : List α) (ρ : Ev) (w : Wd), I pre ρ w →
    (∀ p x q ρ w, pre ++ post = p ++ x :: q → I p ρ w → ∃ ρ1 ρ2 w2, tgt (m x) ρ = some ρ1 ∧ (body ρ1 w = .nx ρ2 w2 ∨ body ρ1 w = .ct ρ2 w2) ∧ I (p ++ [x]) ρ2 w2) → ∃ ρ2 w2, forL tgt body (post.map m) ρ w = .nx ρ2 w2 ∧ I (pre ++ post) ρ2 w2
  | [], pre, ρ, w, h0, _ => ⟨ρ, w, rfl, by rw [List.append_nil]; exact h0⟩
  | x :: post, pre, ρ, w, h0, h => by
    obtain ⟨ρ1, ρ2, w2, e1, e2, h2⟩ := h pre x post ρ w rfl h0
    have e : (pre ++ [x]) ++ post = pre ++ x :: post := by simp
    obtain ⟨ρ3, w3, e3, h3⟩ := forL_inv m I post (pre ++ [x]) ρ2 w2 h2 (by rw [e]; exact h)
    rw [e] at h3
    refine ⟨ρ3, w3, ?_, h3⟩
    rw [List.map_cons]
    unfold forL
    rw [e1]
    dsimp only
    rcases e2 with e2 | e2 <;> (rw [e2]; exact e3)
/-- the same without the items -/
theorem forL_keep {α : Type} (m : α → D) {tgt : Tg} {body : Sf} (I : Ev → Wd → Prop) : ∀ (xs : List α) (ρ : Ev) (w : Wd), I ρ w →
    (∀ x ∈ xs, ∀ ρ w, I ρ w → ∃ ρ1 ρ2 w2, tgt (m x) ρ = some ρ1 ∧ (body ρ1 w = .nx ρ2 w2 ∨ body ρ1 w = .ct ρ2 w2) ∧ I ρ2 w2) → ∃ ρ2 w2, forL tgt body (xs.map m) ρ w = .nx ρ2 w2 ∧ I ρ2 w2 := fun xs ρ w h0 h => by
  obtain ⟨ρ2, w2, e, i⟩ := forL_inv m (fun _ => I) xs [] ρ w h0 fun p x q ρ w e i => h x (by rw [List.nil_append] at e; rw [e]; simp) ρ w i
  exact ⟨ρ2, w2, e, i⟩
/-! ### numbers -/
def nD (n : Nat) : D := .int (n : Int)
theorem intsD_eq (lo : Int) (n : Nat) : intsD lo n = (List.range n).map fun (k : Nat) => PyData.int (lo + (k : Int)) := rfl
theorem ints0 (n : Nat) : intsD 0 n = (List.range n).map nD := by
  unfold intsD nD
  exact List.map_congr_left fun k _ => by rw [Int.zero_add]
/-! ### == and in, for values of one type -/
section
variable {α : Type} [DecidableEq α] [Datum α]
theorem eqOk_datum (h : Datum.depth α ≤ 64) (a b : α) : eqOk (Datum.toD a) (Datum.toD b) = true := by
  unfold eqOk
  rw [Datum.plain, Datum.plain, Bool.true_and, Bool.true_and, decide_eq_true_eq]
  exact Nat.le_trans (Nat.min_le_left _ _) (Nat.le_trans (Datum.depth_le a) h)
theorem dEq_datum (h : Datum.depth α ≤ 64) (a b : α) : dEq (Datum.toD a) (Datum.toD b) = some (.bool (decide (a = b))) := by
  unfold dEq
  rw [if_pos (eqOk_datum h a b), Datum.eqv]
theorem dNe_datum (h : Datum.depth α ≤ 64) (a b : α) : dNe (Datum.toD a) (Datum.toD b) = some (.bool (!decide (a = b))) := by
  unfold dNe
  rw [if_pos (eqOk_datum h a b), Datum.eqv]
theorem inOk_datum (h : Datum.depth α ≤ 64) (a : α) (xs : List α) : inOk (Datum.toD a) (xs.map Datum.toD) = true := by
  unfold inOk
  rw [Datum.plain, plainAll_map, Bool.true_and, Bool.true_and, decide_eq_true_eq]
  exact Nat.le_trans (Nat.min_le_right _ _) (Nat.le_trans (Datum.depth_le a) h)
theorem any_datum (a : α) (xs : List α) : ((xs.map Datum.toD).any fun z => PyData.eqv z (Datum.toD a)) = decide (a ∈ xs) := by
  rw [List.any_map, Bool.eq_iff_iff, List.any_eq_true, decide_eq_true_eq]
  constructor
  · rintro ⟨x, hx, e⟩
    have e : PyData.eqv (Datum.toD x) (Datum.toD a) = true := e
    rw [Datum.eqv, decide_eq_true_eq] at e
    rw [← e]; exact hx
  · intro hx
    exact ⟨a, hx, by show PyData.eqv (Datum.toD a) (Datum.toD a) = true; rw [Datum.eqv, decide_eq_true_eq]⟩
theorem dIn_list (h : Datum.depth α ≤ 64) (a : α) (xs : List α) : dIn (Datum.toD a) (.list (xs.map Datum.toD)) = some (.bool (decide (a ∈ xs))) := by
  show (if inOk (Datum.toD a) (xs.map Datum.toD) = true then some (PyData.bool ((xs.map Datum.toD).any fun z => PyData.eqv z (Datum.toD a))) else none) = _
  rw [if_pos (inOk_datum h a xs), any_datum]
theorem dIn_tuple (h : Datum.depth α ≤ 64) (a : α) (xs : List α) : dIn (Datum.toD a) (.tuple (xs.map Datum.toD)) = some (.bool (decide (a ∈ xs))) := by
  show (if inOk (Datum.toD a) (xs.map Datum.toD) = true then some (PyData.bool ((xs.map Datum.toD).any fun z => PyData.eqv z (Datum.toD a))) else none) = _
  rw [if_pos (inOk_datum h a xs), any_datum]
end
theorem dIn_ints (a : Int) (xs : List Int) : dIn (.int a) (.list (xs.map .int)) = some (.bool (decide (a ∈ xs))) := dIn_list (α := Int) (by decide) a xs
theorem dIn_intsT (a : Int) (xs : List Int) : dIn (.int a) (.tuple (xs.map .int)) = some (.bool (decide (a ∈ xs))) := dIn_tuple (α := Int) (by decide) a xs
theorem dEq_int (a b : Int) : dEq (.int a) (.int b) = some (.bool (decide (a = b))) := dEq_datum (α := Int) (by decide) a b
theorem dNe_int (a b : Int) : dNe (.int a) (.int b) = some (.bool (!decide (a = b))) := dNe_datum (α := Int) (by decide) a b
theorem dEq_bool (a b : Bool) : dEq (.bool a) (.bool b) = some (.bool (decide (a = b))) := dEq_datum (α := Bool) (by decide) a b
theorem dNe_bool (a b : Bool) : dNe (.bool a) (.bool b) = some (.bool (!decide (a = b))) := dNe_datum (α := Bool) (by decide) a b
/-- == [] -/
theorem dEq_nil {xs : List D} (h : PyData.plainAll xs = true) : dEq (.list xs) (.list []) = some (.bool xs.isEmpty) := by
  unfold dEq eqOk
  rw [if_pos]
  · cases xs <;> simp [PyData.eqv, PyData.eqvAll]
  · simp [PyData.plain, PyData.plainAll, h, PyData.depth, PyData.depthAll]
theorem dNe_nil {xs : List D} (h : PyData.plainAll xs = true) : dNe (.list xs) (.list []) = some (.bool (!xs.isEmpty)) := by
  unfold dNe eqOk
  rw [if_pos]
  · cases xs <;> simp [PyData.eqv, PyData.eqvAll]
  · simp [PyData.plain, PyData.plainAll, h, PyData.depth, PyData.depthAll]
/-! ### sorted, min, max of whole numbers -/
theorem plain_ints (xs : List Int) : PyData.plainAll (xs.map .int) = true := plainAll_map (α := Int) xs
theorem sortOk_ints (xs : List Int) : sortOk (xs.map .int) = true := by
  unfold sortOk
  rw [plain_ints, depth_ints]
  simp [alike]
def srtI (xs : List Int) : List Int := xs.mergeSort fun a b => decide (a ≤ b)
theorem sortD_ints (xs : List Int) : sortD false (xs.map .int) = (srtI xs).map .int := by
  unfold sortD srtI
  refine (sort_maps (r := fun a b : Int => decide (a ≤ b)) (s := dataLe false id) PyData.int fun a _ b _ => ?_).symm
  have := congrFun (congrFun (dataLe_int (β := Int) id) a) b
  exact this.symm
theorem gSorted_ints {xs : List Int} (h : xs.length ≤ sizeLine) : gSorted [.list (xs.map .int)] = some ((srtI xs).map PyData.int) := by
  show (if sortOk (xs.map .int) = true ∧ (xs.map PyData.int).length ≤ sizeLine then some (sortD false (xs.map .int)) else none) = _
  rw [if_pos ⟨sortOk_ints xs, by rw [List.length_map]; exact h⟩, sortD_ints]
theorem mmOk_ints (xs : List Int) : mmOk (xs.map .int) = true := by
  unfold mmOk alikeAllB
  rw [plain_ints, depth_ints]
  simp [alike, DL.isNon]
theorem gMin_ints (x : Int) (xs : List Int) : gMin [.list ((x :: xs).map .int)] = some (.int (xs.foldl min x)) := by
  show (if mmOk ((x :: xs).map .int) = true then some (minD (.int x) (xs.map .int)) else none) = _
  rw [if_pos (mmOk_ints _), minD_ints]
theorem gMax_ints (x : Int) (xs : List Int) : gMax [.list ((x :: xs).map .int)] = some (.int (xs.foldl max x)) := by
  show (if mmOk ((x :: xs).map .int) = true then some (maxD (.int x) (xs.map .int)) else none) = _
  rw [if_pos (mmOk_ints _), maxD_ints]
@[simp] theorem u_eBin {g : D → D → Option D} {fa fb : Ef} {ρ : Ev} {w : Wd} : eBin g fa fb ρ w = (fa ρ w).bind fun a w1 => (fb ρ w1).bind fun b w2 => R.of w2 (g a b) := Eq.trans rfl rfl
@[simp] theorem u_tstV {fa : Ef} {ρ : Ev} {w : Wd} : tstV fa ρ w = (fa ρ w).bind fun d w1 => R.of w1 (truth d) := Eq.trans rfl rfl
@[simp] theorem u_tCm {g : D → D → Option D} {fa fb : Ef} {ρ : Ev} {w : Wd} : tCm g fa fb ρ w = (fa ρ w).bind fun a w1 => (fb ρ w1).bind fun b w2 => R.of w2 ((g a b).bind bOf) := Eq.trans rfl rfl
@[simp] theorem u_tNo {ta : Ev → Wd → R Bool} {ρ : Ev} {w : Wd} : tNo ta ρ w = (ta ρ w).bind fun b w1 => .ok (!b) w1 := Eq.trans rfl rfl
@[simp] theorem u_tAn {ta tb : Ev → Wd → R Bool} {ρ : Ev} {w : Wd} : tAn ta tb ρ w = (ta ρ w).bind fun b w1 => if b = true then tb ρ w1 else .ok false w1 := Eq.trans rfl rfl
@[simp] theorem u_tOo {ta tb : Ev → Wd → R Bool} {ρ : Ev} {w : Wd} : tOo ta tb ρ w = (ta ρ w).bind fun b w1 => if b = true then .ok true w1 else tb ρ w1 := Eq.trans rfl rfl
@[simp] theorem u_eNo {fa : Ef} {ρ : Ev} {w : Wd} : eNo fa ρ w = (fa ρ w).bind fun d w1 => R.of w1 ((truth d).map fun b => .bool (!b)) := Eq.trans rfl rfl
@[simp] theorem u_eIf {tc : Ev → Wd → R Bool} {fa fb : Ef} {ρ : Ev} {w : Wd} : eIf tc fa fb ρ w = (tc ρ w).bind fun k w1 => if k = true then fa ρ w1 else fb ρ w1 := Eq.trans rfl rfl
@[simp] theorem u_eT {ta : Ev → Wd → R Bool} {ρ : Ev} {w : Wd} : eT ta ρ w = (ta ρ w).bind fun b w1 => .ok (.bool b) w1 := Eq.trans rfl rfl
@[simp] theorem u_eC {d : D} {ρ : Ev} {w : Wd} : eC d ρ w = .ok d w := Eq.trans rfl rfl
@[simp] theorem u_lN  {ρ : Ev} {w : Wd} : lN ρ w = .ok [] w := Eq.trans rfl rfl
@[simp] theorem u_lC {fe : Ef} {fs : Ev → Wd → R (List D)} {ρ : Ev} {w : Wd} : lC fe fs ρ w = (fe ρ w).bind fun d w1 => (fs ρ w1).bind fun ds w2 => .ok (d :: ds) w2 := Eq.trans rfl rfl
@[simp] theorem u_eTup {fs : Ev → Wd → R (List D)} {ρ : Ev} {w : Wd} : eTup fs ρ w = (fs ρ w).bind fun ds w1 => if ds.length ≤ sizeLine then .ok (.tuple ds) w1 else .bad := Eq.trans rfl rfl
@[simp] theorem u_oLst {fs : Ev → Wd → R (List D)} {ρ : Ev} {w : Wd} : oLst fs ρ w = (fs ρ w).bind fun ds w1 => if ds.length ≤ sizeLine then .ok ds w1 else .bad := Eq.trans rfl rfl
@[simp] theorem u_eFz {fo : Ev → Wd → R (List D)} {ρ : Ev} {w : Wd} : eFz fo ρ w = (fo ρ w).bind fun ds w1 => .ok (.list ds) w1 := Eq.trans rfl rfl
@[simp] theorem u_pN  {ρ : Ev} {w : Wd} : pN ρ w = .ok none w := Eq.trans rfl rfl
@[simp] theorem u_pS {fa : Ef} {ρ : Ev} {w : Wd} : pS fa ρ w = (fa ρ w).bind fun d w1 => R.of w1 ((intOf d).map some) := Eq.trans rfl rfl
@[simp] theorem u_eCut {fa : Ef} {fl fh : Ev → Wd → R (Option Int)} {ρ : Ev} {w : Wd} : eCut fa fl fh ρ w = (fa ρ w).bind fun d w1 => (fl ρ w1).bind fun lo w2 => (fh ρ w2).bind fun hi w3 => R.of w3 (dCut lo hi d) := Eq.trans rfl rfl
@[simp] theorem u_eCall {g : List D → Option D} {fs : Ev → Wd → R (List D)} {ρ : Ev} {w : Wd} : eCall g fs ρ w = (fs ρ w).bind fun ds w1 => R.of w1 (g ds) := Eq.trans rfl rfl
@[simp] theorem u_oCall {g : List D → Option (List D)} {fs : Ev → Wd → R (List D)} {ρ : Ev} {w : Wd} : oCall g fs ρ w = (fs ρ w).bind fun ds w1 => R.of w1 (g ds) := Eq.trans rfl rfl
@[simp] theorem u_eIs {ty : String} {fa : Ef} {ρ : Ev} {w : Wd} : eIs ty fa ρ w = (fa ρ w).bind fun d w1 => R.of w1 ((isTy ty d).map .bool) := Eq.trans rfl rfl
@[simp] theorem u_sNil  {ρ : Ev} {w : Wd} : sNil ρ w = .nx ρ w := Eq.trans rfl rfl
@[simp] theorem u_sSeq {f g : Sf} {ρ : Ev} {w : Wd} : sSeq f g ρ w = seqK (f ρ w) g := Eq.trans rfl rfl
@[simp] theorem u_sIf {tc : Ev → Wd → R Bool} {f g : Sf} {ρ : Ev} {w : Wd} : sIf tc f g ρ w = bindS (tc ρ w) fun b w1 => if b = true then f ρ w1 else g ρ w1 := Eq.trans rfl rfl
@[simp] theorem u_sRet {fa : Ef} {ρ : Ev} {w : Wd} : sRet fa ρ w = bindS (fa ρ w) fun d w1 => .rt d w1 := Eq.trans rfl rfl
@[simp] theorem u_sRetO {fo : Ev → Wd → R (List D)} {ρ : Ev} {w : Wd} : sRetO fo ρ w = bindS (fo ρ w) fun ds w1 => .ro ds w1 := Eq.trans rfl rfl
@[simp] theorem u_sRetN  {ρ : Ev} {w : Wd} : sRetN ρ w = .rt .none w := Eq.trans rfl rfl
@[simp] theorem u_sBk  {ρ : Ev} {w : Wd} : sBk ρ w = .bk ρ w := Eq.trans rfl rfl
@[simp] theorem u_sCt  {ρ : Ev} {w : Wd} : sCt ρ w = .ct ρ w := Eq.trans rfl rfl
@[simp] theorem u_sDrop {fa : Ef} {ρ : Ev} {w : Wd} : sDrop fa ρ w = bindS (fa ρ w) fun _ w1 => .nx ρ w1 := Eq.trans rfl rfl
@[simp] theorem u_sAsg {fa : Ef} {g : Tg} {ρ : Ev} {w : Wd} : sAsg fa g ρ w = bindS (fa ρ w) fun d w1 => ofO w1 (g d ρ) := Eq.trans rfl rfl
@[simp] theorem u_sOwn {fo : Ev → Wd → R (List D)} {i : Nat} {ρ : Ev} {w : Wd} : sOwn fo i ρ w = bindS (fo ρ w) fun ds w1 => if i < ρ.length then .nx (ρ.set i (some (.ol ds))) w1 else .bad := Eq.trans rfl rfl
@[simp] theorem u_sFor {fi : Ev → Wd → R (List D)} {t : Tg} {b : Sf} {ρ : Ev} {w : Wd} : sFor fi t b ρ w = bindS (fi ρ w) fun ds w1 => forL t b ds ρ w1 := Eq.trans rfl rfl
@[simp] theorem u_iS {fa : Ef} {ρ : Ev} {w : Wd} : iS fa ρ w = (fa ρ w).bind fun d w1 => R.of w1 (seqOf d) := Eq.trans rfl rfl
@[simp] theorem u_oYes  {ρ : Ev} {w : Wd} : oYes ρ w = .ok true w := Eq.trans rfl rfl
@[simp] theorem u_lStar {fe : Ef} {fs : Ev → Wd → R (List D)} {ρ : Ev} {w : Wd} : lStar fe fs ρ w = (fe ρ w).bind fun d w1 => match seqOf d with | some xs => (fs ρ w1).bind fun ds w2 => .ok (xs ++ ds) w2 | none => .bad := Eq.trans rfl rfl
@[simp] theorem u_eRev {fa : Ef} {ρ : Ev} {w : Wd} : eRev fa ρ w = (fa ρ w).bind fun d w1 => R.of w1 (dRev d) := Eq.trans rfl rfl
@[simp] theorem u_eNeg {fa : Ef} {ρ : Ev} {w : Wd} : eNeg fa ρ w = (fa ρ w).bind fun d w1 => R.of w1 (dNeg d) := Eq.trans rfl rfl
@[simp] theorem u_aNil  {ρ : Ev} {w : Wd} : aNil ρ w = .ok [] w := Eq.trans rfl rfl
@[simp] theorem u_aCons {fa : Ef} {fs : Ev → Wd → R (List Sl)} {ρ : Ev} {w : Wd} : aCons fa fs ρ w = (fa ρ w).bind fun d w1 => (fs ρ w1).bind fun ss w2 => .ok (.v d :: ss) w2 := Eq.trans rfl rfl
@[simp] theorem u_eCallF {n : Nat} {fm : List Sl → Wd → R D} {fs : Ev → Wd → R (List Sl)} {ρ : Ev} {w : Wd} : eCallF n fm fs ρ w = (fs ρ w).bind fun ss w1 => if ss.length = n then fm ss w1 else .bad := Eq.trans rfl rfl
@[simp] theorem u_oCallF {n : Nat} {fm : List Sl → Wd → R (List D)} {fs : Ev → Wd → R (List Sl)} {ρ : Ev} {w : Wd} : oCallF n fm fs ρ w = (fs ρ w).bind fun ss w1 => if ss.length = n then fm ss w1 else .bad := Eq.trans rfl rfl
@[simp] theorem u_sDnew {i : Nat} {ρ : Ev} {w : Wd} : sDnew i ρ w = if i < ρ.length then .nx (ρ.set i (some (.od []))) w else .bad := Eq.trans rfl rfl
@[simp] theorem u_sRaise {x : Str} {ρ : Ev} {w : Wd} : sRaise x ρ w = .exc x w := Eq.trans rfl rfl
@[simp] theorem u_ent {n N : Nat} {ss : List Sl} : ent n N ss = ss.map some ++ List.replicate (N - n) none := Eq.trans rfl rfl
@[simp] theorem u_gN {i : Nat} {d : D} {ρ : Ev} : gN i d ρ = if i < ρ.length then some (ρ.set i (some (.v d))) else none := Eq.trans rfl rfl
@[simp] theorem u_gsNn  {ρ : Ev} : gsN [] ρ = some ρ := Eq.trans rfl rfl
@[simp] theorem u_gsCc {g : Tg} {gs : Tgs} {d : D} {ds : List D} {ρ : Ev} : gsC g gs (d :: ds) ρ = (g d ρ).bind fun ρ1 => gs ds ρ1 := Eq.trans rfl rfl
@[simp] theorem u_gTt {n : Nat} {gs : Tgs} {ds : List D} {ρ : Ev} : gT n gs (.tuple ds) ρ = if ds.length = n then gs ds ρ else none := Eq.trans rfl rfl
@[simp] theorem u_truN  : truth .none = some false := Eq.trans rfl rfl
@[simp] theorem u_truB {b : Bool} : truth (.bool b) = some b := Eq.trans rfl rfl
@[simp] theorem u_truI {i : Int} : truth (.int i) = some (i != 0) := Eq.trans rfl rfl
@[simp] theorem u_truL {ds : List D} : truth (.list ds) = some (!ds.isEmpty) := Eq.trans rfl rfl
@[simp] theorem u_truT {ds : List D} : truth (.tuple ds) = some (!ds.isEmpty) := Eq.trans rfl rfl
@[simp] theorem u_bOfb {b : Bool} : bOf (.bool b) = some b := Eq.trans rfl rfl
@[simp] theorem u_intOf {i : Int} : intOf (.int i) = some i := Eq.trans rfl rfl
@[simp] theorem u_seqL {ds : List D} : seqOf (.list ds) = some ds := Eq.trans rfl rfl
@[simp] theorem u_seqT {ds : List D} : seqOf (.tuple ds) = some ds := Eq.trans rfl rfl
@[simp] theorem u_lenL {ds : List D} : gLen [.list ds] = some (.int ds.length) := Eq.trans rfl rfl
@[simp] theorem u_lenT {ds : List D} : gLen [.tuple ds] = some (.int ds.length) := Eq.trans rfl rfl
@[simp] theorem u_ixL {ds : List D} {i : Int} : dIx (.list ds) (.int i) = L2.atI ds i := Eq.trans rfl rfl
@[simp] theorem u_ixT {ds : List D} {i : Int} : dIx (.tuple ds) (.int i) = L2.atI ds i := Eq.trans rfl rfl
@[simp] theorem u_addI {i j : Int} : dAdd (.int i) (.int j) = some (.int (i + j)) := Eq.trans rfl rfl
@[simp] theorem u_iadI {i j : Int} : dIadd (.int i) (.int j) = some (.int (i + j)) := Eq.trans rfl rfl
@[simp] theorem u_subI {i j : Int} : dSub (.int i) (.int j) = some (.int (i - j)) := Eq.trans rfl rfl
@[simp] theorem u_negI {i : Int} : dNeg (.int i) = some (.int (-i)) := Eq.trans rfl rfl
@[simp] theorem u_ltI {i j : Int} : dLt (.int i) (.int j) = some (.bool (decide (i < j))) := Eq.trans rfl rfl
@[simp] theorem u_leI {i j : Int} : dLe (.int i) (.int j) = some (.bool (decide (i ≤ j))) := Eq.trans rfl rfl
@[simp] theorem u_gtI {i j : Int} : dGt (.int i) (.int j) = some (.bool (decide (j < i))) := Eq.trans rfl rfl
@[simp] theorem u_geI {i j : Int} : dGe (.int i) (.int j) = some (.bool (decide (j ≤ i))) := Eq.trans rfl rfl
@[simp] theorem u_intI {i : Int} : gInt [.int i] = some (.int i) := Eq.trans rfl rfl
@[simp] theorem u_absI {i : Int} : gAbs [.int i] = some (.int (if i < 0 then -i else i)) := Eq.trans rfl rfl
@[simp] theorem u_isN {d : D} : dIs d .none = some (.bool (DL.isNon d)) := Eq.trans rfl rfl
@[simp] theorem u_isB {a b : Bool} : dIs (.bool a) (.bool b) = some (.bool (a == b)) := Eq.trans rfl rfl
@[simp] theorem u_nisN {d : D} : dNis d .none = some (.bool (!DL.isNon d)) := Eq.trans rfl rfl
@[simp] theorem u_nisB {a b : Bool} : dNis (.bool a) (.bool b) = some (.bool (a != b)) := Eq.trans rfl rfl
@[simp] theorem u_eV {i : Nat} {ρ : Ev} {w : Wd} : eV i ρ w = match ρ[i]? with | some (some (.v d)) => .ok d w | _ => .bad := Eq.trans rfl rfl
@[simp] theorem u_eBw {i : Nat} {ρ : Ev} {w : Wd} : eBw i ρ w = match ρ[i]? with | some (some (.v d)) => .ok d w | some (some (.ol ds)) => .ok (.list ds) w | some (some (.od kvs)) => .ok (.dict kvs) w | _ => .bad := Eq.trans rfl rfl
@[simp] theorem u_aSl {i : Nat} {fs : Ev → Wd → R (List Sl)} {ρ : Ev} {w : Wd} : aSl i fs ρ w = match ρ[i]? with | some (some .dr) => (fs ρ w).bind fun ss w2 => .ok (.dr :: ss) w2 | some (some (.sc ns)) => (fs ρ w).bind fun ss w2 => .ok (.sc ns :: ss) w2 | _ => .bad := Eq.trans rfl rfl
@[simp] theorem u_sFz {i : Nat} {ρ : Ev} {w : Wd} : sFz i ρ w = match ρ[i]? with | some (some (.ol ds)) => .nx (ρ.set i (some (.v (.list ds)))) w | some (some (.od kvs)) => .nx (ρ.set i (some (.v (.dict kvs)))) w | _ => .bad := Eq.trans rfl rfl
@[simp] theorem u_wipe0 {ρ : Ev} : wipeE ρ [] = ρ := Eq.trans rfl rfl
@[simp] theorem u_wipe1 {ρ : Ev} {v : Nat} {vs : List Nat} : wipeE ρ (v :: vs) = (wipeE ρ vs).set v none := Eq.trans rfl rfl
@[simp] theorem filterT {α : Type} (xs : List α) : xs.filter (fun _ => true) = xs := List.filter_eq_self.mpr fun _ _ => rfl
theorem oLc_mapT {α β : Type} {fi : Ev → Wd → R (List D)} {tgt : Tg} {fe : Ef} {vs : List Nat} {ρ : Ev} {w w1 : Wd} {xs : List α} (m : α → D) (n : β → D) (g : α → β) (hi : fi ρ w = .ok (xs.map m) w1) (hl : xs.length ≤ sizeLine)
    (h : ∀ x ∈ xs, ∃ ρ1, tgt (m x) (wipeE ρ vs) = some ρ1 ∧ fe ρ1 w1 = .ok (n (g x)) w1) : oLc fi tgt oYes fe vs ρ w = .ok ((xs.map g).map n) w1 := by
  have e := oLc_map (fi := fi) (tgt := tgt) (tt := oYes) (fe := fe) (vs := vs) (ρ := ρ) m n (fun _ => true) g hi hl fun x hx => by
    obtain ⟨ρ1, a, b⟩ := h x hx
    exact ⟨ρ1, a, rfl, fun _ => b⟩
  rwa [filterT] at e
theorem oLc_filt {α : Type} {fi : Ev → Wd → R (List D)} {tgt : Tg} {tt : Ev → Wd → R Bool} {fe : Ef} {vs : List Nat} {ρ : Ev} {w w1 : Wd} {xs : List α} (m : α → D) (p : α → Bool) (hi : fi ρ w = .ok (xs.map m) w1) (hl : xs.length ≤ sizeLine)
    (h : ∀ x ∈ xs, ∃ ρ1, tgt (m x) (wipeE ρ vs) = some ρ1 ∧ tt ρ1 w1 = .ok (p x) w1 ∧ fe ρ1 w1 = .ok (m x) w1) : oLc fi tgt tt fe vs ρ w = .ok ((xs.filter p).map m) w1 := by
  have e := oLc_map (fi := fi) (tgt := tgt) (tt := tt) (fe := fe) (vs := vs) (ρ := ρ) m m p id hi hl fun x hx => by
    obtain ⟨ρ1, a, b, c⟩ := h x hx
    exact ⟨ρ1, a, b, fun _ => c⟩
  rwa [List.map_id] at e
theorem atI_lastQ {α : Type} {xs : List α} {v : α} (h : xs.getLast? = some v) : L2.atI xs (-1) = some v := by
  obtain ⟨ys, rfl⟩ := List.getLast?_eq_some_iff.mp h
  exact atI_last ys v
theorem atI_map_last {α β : Type} {xs : List α} {v : α} (m : α → β) (h : xs.getLast? = some v) : L2.atI (xs.map m) (-1) = some (m v) := atI_lastQ (by rw [List.getLast?_map, h]; rfl)
theorem atI_map {α β : Type} {xs : List α} {v : α} (m : α → β) {j : Nat} (h : xs[j]? = some v) : L2.atI (xs.map m) (j : Int) = some (m v) := atI_nat (by rw [List.getElem?_map, h]; rfl)
theorem mem_srtI {a : Int} {xs : List Int} : a ∈ srtI xs ↔ a ∈ xs := List.mem_mergeSort
theorem srtI_len (xs : List Int) : (srtI xs).length = xs.length := List.length_mergeSort xs
/-- next to next -/
def asc (xs : List Int) : Bool := (List.range (xs.length - 1)).all fun k => decide (xs.getD k 0 < xs.getD (k + 1) 0)
theorem asc_iff : ∀ xs : List Int, asc xs = true ↔ xs.Pairwise (· < ·)
  | [] => by simp [asc]
  | [x] => by simp [asc]
  | x :: y :: r => by
    have ih := asc_iff (y :: r)
    have e : asc (x :: y :: r) = (decide (x < y) && asc (y :: r)) := by
      show (List.range (r.length + 1)).all _ = _
      rw [List.range_succ_eq_map, List.all_cons, List.all_map]
      rfl
    rw [e, Bool.and_eq_true, decide_eq_true_eq, ih, List.pairwise_cons (a := x)]
    constructor
    · rintro ⟨h1, h2⟩
      refine ⟨fun z hz => ?_, h2⟩
      rcases List.mem_cons.mp hz with rfl | hz
      · exact h1
      · exact Int.lt_trans h1 ((List.pairwise_cons.mp h2).1 z hz)
    · rintro ⟨h1, h2⟩
      exact ⟨h1 y List.mem_cons_self, h2⟩
theorem asc_srt (xs : List Int) : asc (srtI xs) = decide xs.Nodup := by
  rw [Bool.eq_iff_iff, asc_iff, decide_eq_true_eq]
  have hp : (srtI xs).Perm xs := List.mergeSort_perm xs _
  have hs : (srtI xs).Pairwise (· ≤ ·) := by
    have := List.pairwise_mergeSort (le := fun a b : Int => decide (a ≤ b)) (fun a b c h1 h2 => decide_eq_true (Int.le_trans (of_decide_eq_true h1) (of_decide_eq_true h2))) (fun a b => by rcases Int.le_total a b with h | h <;> simp [h]) xs
    exact this.imp fun h => of_decide_eq_true h
  constructor
  · intro h
    exact hp.nodup_iff.mp (h.imp fun h => Int.ne_of_lt h)
  · intro h
    have h : (srtI xs).Pairwise (· ≠ ·) := hp.nodup_iff.mpr h
    exact (hs.and h).imp fun ⟨a, b⟩ => by omega
theorem oLc2_mapT {α β γ : Type} {fi fi1 : Ev → Wd → R (List D)} {tgt tgt1 : Tg} {fe : Ef} {vs vs1 : List Nat} {ρ : Ev} {w w1 : Wd} {xs : List α} (m : α → D) (m1 : β → D) (n : γ → D) (g : α → List β) (h : α → β → γ) (hi : fi ρ w = .ok (xs.map m) w1)
    (hl : (xs.flatMap fun x => (g x).map (h x)).length ≤ sizeLine)
    (H : ∀ x ∈ xs, ∃ ρ1, tgt (m x) (wipeE ρ vs) = some ρ1 ∧ fi1 ρ1 w1 = .ok ((g x).map m1) w1 ∧ ∀ y ∈ g x, ∃ ρ2, tgt1 (m1 y) (wipeE ρ1 vs1) = some ρ2 ∧ fe ρ2 w1 = .ok (n (h x y)) w1) :
    oLc2 fi tgt oYes fi1 tgt1 oYes fe vs vs1 ρ w = .ok ((xs.flatMap fun x => (g x).map (h x)).map n) w1 := by
  unfold oLc2 fit
  rw [hi, bind_ok]
  have : ∀ xs : List α, (∀ x ∈ xs, ∃ ρ1, tgt (m x) (wipeE ρ vs) = some ρ1 ∧ fi1 ρ1 w1 = .ok ((g x).map m1) w1 ∧ ∀ y ∈ g x, ∃ ρ2, tgt1 (m1 y) (wipeE ρ1 vs1) = some ρ2 ∧ fe ρ2 w1 = .ok (n (h x y)) w1) →
      lc2L tgt oYes fi1 tgt1 oYes fe vs1 (wipeE ρ vs) (xs.map m) w1 = .ok ((xs.flatMap fun x => (g x).map (h x)).map n) w1 := fun xs => by
    induction xs with
    | nil => intro _; rfl
    | cons x xs ih =>
      intro H
      obtain ⟨ρ1, h1, h2, h3⟩ := H x List.mem_cons_self
      have ih := ih fun y hy => H y (List.mem_cons_of_mem _ hy)
      have inner : ∀ ys : List β, (∀ y ∈ ys, ∃ ρ2, tgt1 (m1 y) (wipeE ρ1 vs1) = some ρ2 ∧ fe ρ2 w1 = .ok (n (h x y)) w1) → lcL tgt1 oYes fe (wipeE ρ1 vs1) (ys.map m1) w1 = .ok ((ys.map (h x)).map n) w1 := fun ys => by
        induction ys with
        | nil => intro _; rfl
        | cons y ys ih2 =>
          intro H2
          obtain ⟨ρ2, k1, k2⟩ := H2 y List.mem_cons_self
          rw [List.map_cons]
          unfold lcL
          rw [k1]
          dsimp only
          rw [u_oYes, bind_ok, if_pos rfl, k2, bind_ok, ih2 fun z hz => H2 z (List.mem_cons_of_mem _ hz), bind_ok]
          rfl
      rw [List.map_cons]
      unfold lc2L
      rw [h1]
      dsimp only
      rw [u_oYes, bind_ok, if_pos rfl, h2, bind_ok, inner _ h3, bind_ok, ih, bind_ok, List.flatMap_cons, List.map_append]
  rw [this xs H, bind_ok, List.nil_append, if_pos (by rw [List.length_map]; exact hl), calm_ok]
theorem rgS {i : Int} (h1 : -1000000 ≤ i) (h2 : i ≤ 1000000) : rgOk i = true := by simp [rgOk]; omega
theorem iR1_ok {fa : Ef} {ρ : Ev} {w w1 : Wd} {j : Int} (ha : fa ρ w = .ok (.int j) w1) (h1 : -1000000 ≤ j) (h2 : j ≤ 1000000) : iR1 fa ρ w = .ok ((List.range j.toNat).map nD) w1 := by
  have e : iR1 fa ρ w = if rgOk j = true then .ok (intsD 0 j.toNat) w1 else .bad := by unfold iR1; rw [ha]; rfl
  rw [e, if_pos (rgS h1 h2), ints0]
theorem iR2_ok {fa fb : Ef} {ρ : Ev} {w w1 w2 : Wd} {i j : Int} (ha : fa ρ w = .ok (.int i) w1) (hb : fb ρ w1 = .ok (.int j) w2) (h1 : -1000000 ≤ i) (h2 : i ≤ 1000000) (h3 : -1000000 ≤ j) (h4 : j ≤ 1000000) :
    iR2 fa fb ρ w = .ok ((List.range (j - i).toNat).map fun (k : Nat) => PyData.int (i + (k : Int))) w2 := by
  have e : iR2 fa fb ρ w = if (rgOk i && rgOk j) = true then .ok (intsD i (j - i).toNat) w2 else .bad := by unfold iR2; rw [ha, bind_ok, hb]; rfl
  rw [e, if_pos (by rw [rgS h1 h2, rgS h3 h4]; rfl), intsD_eq]
/-! ### rows of whole numbers -/
def ltB : List Int → List Int → Bool
  | [], [] => false
  | [], _ :: _ => true
  | _ :: _, [] => false
  | x :: xs, y :: ys => decide (x < y) || (decide (x = y) && ltB xs ys)
theorem ltB_eq : ∀ xs ys : List Int, ltB xs ys = decide (xs < ys)
  | [], [] => by simp [ltB]
  | [], y :: ys => by simp [ltB]
  | x :: xs, [] => by simp [ltB]
  | x :: xs, y :: ys => by
    rw [ltB, ltB_eq xs ys]
    by_cases h : x = y
    · simp [h, List.cons_lt_cons_iff]
    · simp [h, List.cons_lt_cons_iff]
def tR (xs : List Int) : D := .tuple (xs.map .int)
theorem dataLt_tR (xs ys : List Int) : dataLt (tR xs) (tR ys) = ltB xs ys := by
  unfold tR
  rw [dataLt_tuple, ltB_eq]
  exact dataLt_ints xs ys
def minR (x : List Int) (xs : List (List Int)) : List Int := xs.foldl (fun a y => if ltB y a = true then y else a) x
theorem minD_rows (x : List Int) (xs : List (List Int)) : minD (tR x) (xs.map tR) = tR (minR x xs) := by
  unfold minD minR
  induction xs generalizing x with
  | nil => rfl
  | cons y ys ih =>
    rw [List.map_cons, List.foldl_cons, List.foldl_cons, dataLt_tR, ← ih]
    cases ltB y x <;> rfl
theorem plain_tR (xs : List Int) : (tR xs).plain = true := by unfold tR; rw [PyData.plain]; exact plain_ints xs
theorem plain_rows (xs : List (List Int)) : PyData.plainAll (xs.map tR) = true := by
  induction xs with
  | nil => rfl
  | cons x xs ih => rw [List.map_cons, PyData.plainAll, plain_tR, ih]; rfl
theorem depth_tR (xs : List Int) : (tR xs).depth = 1 := by unfold tR; rw [PyData.depth, depth_ints]
theorem depth_rows (xs : List (List Int)) : PyData.depthAll (xs.map tR) ≤ 1 := by
  induction xs with
  | nil => exact Nat.zero_le _
  | cons x xs ih => rw [List.map_cons, PyData.depthAll, depth_tR]; omega
theorem alike_tR (xs ys : List Int) : alike (tR xs) (tR ys) = true := by unfold tR; rw [alike]; exact alike_ints xs ys
theorem mmOk_rows (xs : List (List Int)) : mmOk (xs.map tR) = true := by
  unfold mmOk alikeAllB
  rw [plain_rows]
  have := depth_rows xs
  simp only [List.all_map, Bool.and_true, Bool.and_eq_true, decide_eq_true_eq, List.all_eq_true]
  exact ⟨⟨fun x _ => List.all_eq_true.mpr fun y _ => alike_tR x y, fun x _ => rfl⟩, by omega⟩
theorem gMin_rows (x : List Int) (xs : List (List Int)) : gMin [.list ((x :: xs).map tR)] = some (tR (minR x xs)) := by
  show (if mmOk ((x :: xs).map tR) = true then some (minD (tR x) (xs.map tR)) else none) = _
  rw [if_pos (mmOk_rows _), minD_rows]
/-! ### enumerate -/
theorem enumD_map {α : Type} (m : α → D) (xs : List α) : enumD (xs.map m) = xs.zipIdx.map fun p => PyData.tuple [nD p.2, m p.1] := by
  unfold enumD nD
  rw [List.mapIdx_eq_zipIdx_map, List.zipIdx_map, List.map_map]
  rfl
theorem zipIdx_split {α : Type} {xs : List α} {p q : List (α × Nat)} {x : α × Nat} (h : xs.zipIdx = p ++ x :: q) : p.length < xs.length ∧ x.2 = p.length ∧ xs[p.length]? = some x.1 := by
  have e : xs.zipIdx[p.length]? = some x := by rw [h]; simp
  rw [List.getElem?_zipIdx] at e
  cases g : xs[p.length]? with
  | none => rw [g] at e; cases e
  | some y =>
    rw [g] at e
    have e := Option.some.inj e
    have : p.length < xs.length := by
      rcases Nat.lt_or_ge p.length xs.length with z | z
      · exact z
      · rw [List.getElem?_eq_none z] at g; cases g
    refine ⟨this, ?_, ?_⟩
    · rw [← e]; simp
    · rw [← e]
theorem cut_take {α : Type} (xs : List α) (k : Nat) : DL.cut xs none (some (k : Int)) = xs.take k := by
  unfold DL.cut
  have e1 : HT.sIx xs.length 0 none = 0 := rfl
  have e2 : HT.sIx xs.length xs.length (some (k : Int)) = min k xs.length := by
    simp [HT.sIx]
    omega
  rw [e1, e2, List.drop_zero, Nat.sub_zero, ← List.take_eq_take_min]
end DM

set_option Elab.async false
set_option linter.all false
set_option maxRecDepth 100000
set_option maxHeartbeats 4000000
/-! DM2: a dict that counts -/
namespace DM
open PySem PySem.Spec L2 DL DG PyProof.Rows PySem.W
def cntD (K ks : List Int) : List (D × D) := K.map fun k => (.int k, .int ((ks.count k : Nat) : Int))
structure CntOk (K ks : List Int) : Prop where
  mem : ∀ k, k ∈ K ↔ k ∈ ks
  len : K.length ≤ ks.length
theorem cnt_any (K ks : List Int) (d : Int) : ((cntD K ks).any fun p => isKey (.inl d) p.1) = decide (d ∈ K) := by
  unfold cntD
  rw [List.any_map, Bool.eq_iff_iff, List.any_eq_true, decide_eq_true_eq]
  constructor
  · rintro ⟨k, hk, e⟩
    have e : decide (k = d) = true := e
    rw [← of_decide_eq_true e]; exact hk
  · exact fun h => ⟨d, h, decide_eq_true rfl⟩
theorem cnt_val (K ks : List Int) (d : Int) : valD (cntD K ks) (.inl d) = if d ∈ K then some (.int ((ks.count d : Nat) : Int)) else none := by
  unfold valD cntD
  induction K with
  | nil => rfl
  | cons k K ih =>
    rw [List.map_cons, List.find?_cons]
    by_cases h : k = d
    · subst h
      have : isKey (.inl k) (PyData.int k) = true := decide_eq_true rfl
      rw [this]
      simp
    · have : isKey (.inl d) (PyData.int k) = false := decide_eq_false h
      dsimp only
      rw [this]
      dsimp only
      rw [ih]
      have : (d ∈ k :: K) ↔ d ∈ K := by
        rw [List.mem_cons]
        exact ⟨fun q => q.resolve_left fun q => h q.symm, .inr⟩
      by_cases hk : d ∈ K
      · rw [if_pos hk, if_pos (this.mpr hk)]
      · rw [if_neg hk, if_neg fun q => hk (this.mp q)]
theorem cnt_get {K ks : List Int} (h : CntOk K ks) (d : Int) : (valD (cntD K ks) (.inl d)).getD (.int 0) = .int ((ks.count d : Nat) : Int) := by
  rw [cnt_val]
  by_cases q : d ∈ K
  · rw [if_pos q]; rfl
  · rw [if_neg q, List.count_eq_zero_of_not_mem fun z => q ((h.mem d).mpr z)]
    rfl
theorem cnt_put {K ks : List Int} (h : CntOk K ks) (d : Int) : ∃ K', CntOk K' (ks ++ [d]) ∧ putD (cntD K ks) (.inl d) (.int (((ks.count d : Nat) : Int) + 1)) = cntD K' (ks ++ [d]) := by
  unfold putD
  rw [cnt_any]
  by_cases q : d ∈ K
  · refine ⟨K, ⟨fun k => ?_, by rw [List.length_append]; have := h.len; omega⟩, ?_⟩
    · rw [List.mem_append, List.mem_singleton, h.mem]
      exact ⟨.inl, fun z => z.elim id fun z => by rw [z]; exact (h.mem d).mp q⟩
    · rw [if_pos (decide_eq_true q)]
      unfold cntD
      rw [List.map_map]
      refine List.map_congr_left fun k hk => ?_
      show (if decide (k = d) = true then ((PyData.int k, PyData.int (((ks.count d : Nat) : Int) + 1)) : D × D) else (.int k, .int ((ks.count k : Nat) : Int))) = _
      by_cases e : k = d
      · subst e
        simp [List.count_append]
      · simp [e, List.count_append, List.count_singleton, Ne.symm e]
  · refine ⟨K ++ [d], ⟨fun k => ?_, by rw [List.length_append, List.length_append]; have := h.len; simp; exact this⟩, ?_⟩
    · rw [List.mem_append, List.mem_append, h.mem]
    · rw [if_neg (by simp [q])]
      have hz : ks.count d = 0 := List.count_eq_zero_of_not_mem fun z => q ((h.mem d).mpr z)
      unfold cntD
      rw [List.map_append, hz]
      congr 1
      · refine List.map_congr_left fun k hk => ?_
        have e : d ≠ k := fun e => q (e ▸ hk)
        simp [List.count_append, List.count_singleton, e]
      · simp [DL.keyD, List.count_append, hz]
end DM

set_option Elab.async false
set_option linter.all false
set_option maxRecDepth 100000
set_option maxHeartbeats 4000000
namespace K98
open PySem PySem.Spec L2 DL DG PyProof.Rows PySem.W DM
def numB : D → Int → Int → Bool
  | .int i, lo, hi => decide (lo ≤ i) && decide (i ≤ hi)
  | _, _, _ => false
theorem s_is_number (d : D) (h : d.plain = true) (lo hi : Int) (w : Wd) : m_is_number [.v d, .v (.int lo), .v (.int hi)] w = .ok (.bool (numB d lo hi)) w := by
  unfold m_is_number
  rw [fnD_eq]
  unfold f_is_number
  cases d with
  | int i =>
    simp [isTy, PyData.isInt, PyData.isBool, eAn, eChain, numB, PyData.plain]
    by_cases e : lo ≤ i <;> simp [e]
  | _ => simp [isTy, PyData.isInt, PyData.isBool, eAn, eChain, numB, h]
def dOf (xs : List Int) (ps : List (Int × Nat)) : List Int := (ps.map fun p => (xs.take p.2).map fun o => p.1 - o).flatten
def diffs (xs : List Int) : List Int := dOf xs xs.zipIdx
theorem dOf_snoc (xs : List Int) (ps : List (Int × Nat)) (p : Int × Nat) : dOf xs (ps ++ [p]) = dOf xs ps ++ (xs.take p.2).map fun o => p.1 - o := by
  unfold dOf
  rw [List.map_append, List.flatten_append]
  simp
theorem dOf_len (xs : List Int) (h : xs.length ≤ 100) : ∀ ps, (dOf xs ps).length ≤ ps.length * 100
  | [] => Nat.le_refl _
  | p :: ps => by
    have ih := dOf_len xs h ps
    show (((xs.take p.2).map fun o => p.1 - o) ++ dOf xs ps).length ≤ _
    rw [List.length_append, List.length_map, List.length_take, List.length_cons]
    omega
theorem s_lengths_of (xs : List Int) (h : xs.length ≤ 100) (w : Wd) : m_lengths_of [.v (tR xs)] w = .ok (.list ((srtI (diffs xs)).map .int)) w := by
  unfold m_lengths_of
  rw [fnD_eq]
  unfold f_lengths_of
  simp only [u_sSeq, u_sOwn, u_oLst, u_lN, bind_ok, List.length_nil, Nat.zero_le, if_true, bindS_ok, u_ent, List.map_cons, List.map_nil, List.cons_append, List.nil_append]
  simp [iEnm, tR]
  rw [enumD_map]
  obtain ⟨ρ2, w2, e, ⟨rfl, a, b, rfl⟩⟩ := forL_inv (fun p : Int × Nat => PyData.tuple [nD p.2, .int p.1]) (tgt := gT 2 (gsC (gN 2) (gsC (gN 3) gsN))) (body := sExt 1 (eFz (oLc (iS (eCut (eBw 0) pN (pS (eBw 2)))) (gN 4) oYes (eBin dSub (eBw 3) (eBw 4)) [4])))
    (fun ps ρ w' => w' = w ∧ ∃ a b, ρ = [some (Sl.v (PyData.tuple (xs.map .int))), some (Sl.ol ((dOf xs ps).map .int)), a, b, none]) xs.zipIdx [] [some (Sl.v (PyData.tuple (xs.map PyData.int))), some (Sl.ol []), none, none, none] w ⟨rfl, none, none, rfl⟩ (by
      rintro p x q ρ w' hx ⟨rfl, a, b, rfl⟩
      obtain ⟨h1, h2, h3⟩ := zipIdx_split hx
      have hl := dOf_len xs h p
      refine ⟨_, [some (Sl.v (PyData.tuple (xs.map .int))), some (Sl.ol ((dOf xs (p ++ [x])).map .int)), some (.v (nD x.2)), some (.v (.int x.1)), none], w', rfl, .inl ?_, rfl, _, _, rfl⟩
      have e := oLc_mapT (fi := iS (eCut (eBw 0) pN (pS (eBw 2)))) (tgt := gN 4) (fe := eBin dSub (eBw 3) (eBw 4)) (vs := [4]) (w := w') (w1 := w') (ρ := [some (Sl.v (PyData.tuple (xs.map .int))), some (Sl.ol ((dOf xs p).map .int)), some (.v (nD x.2)), some (.v (.int x.1)), none]) (xs := xs.take x.2)
        PyData.int PyData.int (fun o => x.1 - o) (by simp [nD, dCut, cut_take]) (by rw [List.length_take, big]; omega) fun o ho => ⟨_, rfl, by simp⟩
      simp only [List.set_cons_succ, List.set_cons_zero, sExt, List.getElem?_cons_succ, List.getElem?_cons_zero, u_eFz, e, bind_ok, bindS_ok]
      rw [if_pos]
      · rw [dOf_snoc, List.map_append]
      · simp [big]
        omega)
  rw [List.nil_append] at e
  rw [e]
  simp [gSorted_ints (xs := dOf xs xs.zipIdx) (by have := dOf_len xs h xs.zipIdx; rw [List.length_zipIdx] at this; rw [big]; omega)]
  rfl
theorem diffs_len (xs : List Int) (h : xs.length ≤ 100) : (diffs xs).length ≤ 10000 := by
  have := dOf_len xs h xs.zipIdx
  rw [List.length_zipIdx] at this
  exact Nat.le_trans this (by omega)
def wholeB (L : Nat) (xs : List Int) : Bool := (List.range L).all fun k => decide (((1 : Int) + (k : Int)) ∈ diffs xs)
theorem s_are_whole (xs : List Int) (L : Nat) (h : xs.length ≤ 100) (hL : L ≤ 1000) (hx : xs.getLast? = some (L : Int)) (w : Wd) : m_are_whole [.v (tR xs)] w = .ok (.bool (wholeB L xs)) w := by
  unfold m_are_whole
  rw [fnD_eq]
  unfold f_are_whole
  simp [s_lengths_of xs h w]
  rw [eAll_map (w1 := w) (xs := List.range L) (fun k : Nat => PyData.int (1 + (k : Int))) (fun k => decide (((1 : Int) + (k : Int)) ∈ diffs xs))]
  · rfl
  · rw [iR2_ok (i := 1) (j := (L : Int) + 1) (w1 := w) (w2 := w) rfl (by simp [tR, atI_map_last PyData.int hx]) (by omega) (by omega) (by omega) (by omega)]
    simp
  · intro k hk
    refine ⟨_, rfl, rfl, ?_⟩
    simp [dIn2, dIn_ints, mem_srtI]
def singleB (xs : List Int) : Bool := decide (diffs xs).Nodup
theorem s_are_single (xs : List Int) (h : xs.length ≤ 100) (w : Wd) : m_are_single [.v (tR xs)] w = .ok (.bool (singleB xs)) w := by
  have hd := diffs_len xs h
  unfold m_are_single
  rw [fnD_eq]
  unfold f_are_single
  simp [s_lengths_of xs h w]
  rw [eAll_map (w1 := w) (xs := List.range ((srtI (diffs xs)).length - 1)) nD (fun k => decide ((srtI (diffs xs)).getD k 0 < (srtI (diffs xs)).getD (k + 1) 0))]
  · unfold singleB
    rw [← asc_srt]
    rfl
  · rw [iR1_ok (j := ((srtI (diffs xs)).length : Int) - 1) (w1 := w) (by simp) (by omega) (by rw [srtI_len]; omega)]
    congr 3
    omega
  · intro k hk
    rw [List.mem_range] at hk
    have h1 : (srtI (diffs xs))[k]? = some ((srtI (diffs xs)).getD k 0) := by rw [List.getD_eq_getElem?_getD, List.getElem?_eq_getElem (by omega)]; rfl
    have h2 : (srtI (diffs xs))[k + 1]? = some ((srtI (diffs xs)).getD (k + 1) 0) := by rw [List.getD_eq_getElem?_getD, List.getElem?_eq_getElem (by omega)]; rfl
    refine ⟨_, rfl, rfl, ?_⟩
    have h3 : L2.atI ((srtI (diffs xs)).map PyData.int) ((k : Int) + 1) = some (.int ((srtI (diffs xs)).getD (k + 1) 0)) := atI_map (j := k + 1) PyData.int h2
    simp only [u_eBin, u_eBw, u_wipe0, u_wipe1, List.set_cons_succ, List.set_cons_zero, List.getElem?_cons_succ, List.getElem?_cons_zero, bind_ok, nD, u_ixL, atI_map PyData.int h1, of_some, u_eC, u_addI, h3, u_ltI]
def lastI (row : List Int) : Int := row.getLastD 0
def next (L : Int) (row : List Int) : List (List Int) := (List.range (L - (lastI row + 1)).toNat).map fun (j : Nat) => row ++ [lastI row + 1 + (j : Int)]
def rowsN (L : Int) : Nat → List (List Int)
  | 0 => [[0]]
  | k + 1 => (rowsN L k).flatMap (next L)
structure RowOk (L : Int) (k : Nat) (row : List Int) : Prop where
  len : row.length = k + 1
  last : row.getLast? = some (lastI row)
  lo : 0 ≤ lastI row
  hi : lastI row = 0 ∨ lastI row < L
theorem rowsN_ok (L : Int) : ∀ k, ∀ row ∈ rowsN L k, RowOk L k row
  | 0, row, h => by
    rw [List.mem_singleton.mp h]
    exact ⟨rfl, rfl, by decide, .inl rfl⟩
  | k + 1, row, h => by
    obtain ⟨r, hr, hn⟩ := List.mem_flatMap.mp h
    obtain ⟨j, hj, rfl⟩ := List.mem_map.mp hn
    have := rowsN_ok L k r hr
    rw [List.mem_range] at hj
    have e : lastI (r ++ [lastI r + 1 + (j : Int)]) = lastI r + 1 + (j : Int) := by simp [lastI]
    have := this.lo
    refine ⟨by simp [(rowsN_ok L k r hr).len], ?_, ?_, ?_⟩
    · rw [e]; simp
    · rw [e]; omega
    · rw [e]; omega
theorem rowsN_len (L : Nat) : ∀ k, (rowsN L k).length ≤ L ^ k
  | 0 => Nat.le_refl _
  | k + 1 => by
    have ih := rowsN_len L k
    have : ∀ rows : List (List Int), (∀ r ∈ rows, 0 ≤ lastI r) → (rows.flatMap (next L)).length ≤ rows.length * L := fun rows => by
      induction rows with
      | nil => intro _; exact Nat.zero_le _
      | cons r rows ih =>
        intro h
        have ih := ih fun x hx => h x (List.mem_cons_of_mem _ hx)
        have := h r List.mem_cons_self
        rw [List.flatMap_cons, List.length_append, List.length_cons, Nat.succ_mul]
        have e : (next L r).length ≤ L := by unfold next; rw [List.length_map, List.length_range]; omega
        omega
    exact Nat.le_trans (this _ fun r hr => (rowsN_ok L k r hr).lo) (Nat.mul_le_mul_right L ih)
def allM (L : Int) (k : Nat) : List (List Int) := (rowsN L k).map fun row => row ++ [L]
theorem pow_small {L k : Nat} (hL : L ≤ 14) (hk : k ≤ 5) : L ^ k ≤ 16777216 := Nat.le_trans (Nat.pow_le_pow_left hL k) (Nat.le_trans (Nat.pow_le_pow_right (by decide) hk) (by decide))
theorem s_all_marks (L k : Nat) (hL : L ≤ 14) (hk : k ≤ 4) (w : Wd) : m_all_marks [.v (nD L), .v (.int ((k : Int) + 2))] w = .ok (.list ((allM L k).map tR)) w := by
  unfold m_all_marks
  rw [fnD_eq]
  unfold f_all_marks
  obtain ⟨ρ2, w2, e, ⟨rfl, a, rfl⟩⟩ := forL_inv nD (tgt := gN 3) (body := (sSeq (sOwn (oLc2 (iS (eV 2)) (gN 4) oYes (iR2 (eBin dAdd (eBin dIx (eBw 4) (eNeg (eC (.int 1)))) (eC (.int 1))) (eBw 0)) (gN 5) oYes (eTup (lStar (eV 4) (lC (eV 5) lN))) [4, 5] [5]) 2)
  (sSeq (sFz 2) sNil))) (fun ps ρ w' => w' = w ∧ ∃ a, ρ = [some (Sl.v (nD L)), some (.v (.int ((k : Int) + 2))), some (.v (.list ((rowsN L ps.length).map tR))), a, none, none]) (List.range k) []
    [some (Sl.v (nD L)), some (.v (.int ((k : Int) + 2))), some (.v (.list ((rowsN L 0).map tR))), none, none, none] w ⟨rfl, none, rfl⟩ (by
      rintro p x q ρ w' hx ⟨rfl, a, rfl⟩
      have hp : p.length < k := by
        have := congrArg List.length hx
        simp at this
        omega
      refine ⟨_, [some (Sl.v (nD L)), some (.v (.int ((k : Int) + 2))), some (.v (.list ((rowsN L (p ++ [x]).length).map tR))), some (.v (nD x)), none, none], w', rfl, .inl ?_, rfl, _, rfl⟩
      have e := oLc2_mapT (fi := iS (eV 2)) (tgt := gN 4) (fi1 := iR2 (eBin dAdd (eBin dIx (eBw 4) (eNeg (eC (.int 1)))) (eC (.int 1))) (eBw 0)) (tgt1 := gN 5) (fe := eTup (lStar (eV 4) (lC (eV 5) lN))) (vs := [4, 5]) (vs1 := [5]) (w := w') (w1 := w')
        (ρ := [some (Sl.v (nD L)), some (.v (.int ((k : Int) + 2))), some (.v (.list ((rowsN L p.length).map tR))), some (.v (nD x)), none, none]) (xs := rowsN L p.length) tR (fun z : Int => PyData.int z) tR
        (fun r => (List.range ((L : Int) - (lastI r + 1)).toNat).map fun (j : Nat) => lastI r + 1 + (j : Int)) (fun r z => r ++ [z]) (by simp) (by
          have := rowsN_len L (p.length + 1)
          have e : (rowsN L (p.length + 1)) = (rowsN L p.length).flatMap fun r => ((List.range ((L : Int) - (lastI r + 1)).toNat).map fun (j : Nat) => lastI r + 1 + (j : Int)).map fun z => r ++ [z] := by
            show (rowsN L p.length).flatMap (next L) = _
            congr 1
            funext r
            unfold next
            rw [List.map_map]
            rfl
          rw [← e, big]
          exact Nat.le_trans this (pow_small hL (by omega))) fun r hr => by
            obtain ⟨r1, r2, r3, r4⟩ := rowsN_ok L _ r hr
            refine ⟨_, rfl, ?_, fun z hz => ⟨_, rfl, ?_⟩⟩
            · rw [iR2_ok (i := lastI r + 1) (j := (L : Int)) (w1 := w') (w2 := w') (by simp [tR, atI_map_last PyData.int r2]) (by simp [nD]) (by omega) (by omega) (by omega) (by omega)]
              rw [List.map_map]
              rfl
            · simp [tR]
              rw [big]; omega
      simp only [u_sSeq, u_sOwn, List.set_cons_succ, List.set_cons_zero, e, bindS_ok, List.length_cons, List.length_nil, Nat.reduceAdd, Nat.reduceLT, if_true, seqK_nx, u_sFz, List.getElem?_cons_succ, List.getElem?_cons_zero, u_sNil]
      rw [List.length_append, show p.length + [x].length = p.length + 1 from rfl]
      have e : (rowsN L (p.length + 1)) = (rowsN L p.length).flatMap fun r => ((List.range ((L : Int) - (lastI r + 1)).toNat).map fun (j : Nat) => lastI r + 1 + (j : Int)).map fun z => r ++ [z] := by
        show (rowsN L p.length).flatMap (next L) = _
        congr 1
        funext r
        unfold next
        rw [List.map_map]
        rfl
      rw [← e])
  rw [List.nil_append, List.length_range] at e
  have e0 : iR1 (eBin dSub (eBw 1) (eC (.int 2))) [some (Sl.v (nD L)), some (.v (.int ((k : Int) + 2))), some (.v (.list ((rowsN L 0).map tR))), none, none, none] w2 = .ok ((List.range k).map nD) w2 := by
    rw [iR1_ok (j := (k : Int)) (w1 := w2) (by simp) (by omega) (by omega)]
    rfl
  have e2 := oLc_mapT (fi := iS (eV 2)) (tgt := gN 4) (fe := eTup (lStar (eV 4) (lC (eV 0) lN))) (vs := [4]) (ρ := [some (Sl.v (nD L)), some (.v (.int ((k : Int) + 2))), some (.v (.list ((rowsN L k).map tR))), a, none, none]) (w := w2) (w1 := w2) (xs := rowsN L k) tR tR (fun row => row ++ [(L : Int)]) (by simp)
    (by have := rowsN_len L k; rw [big]; exact Nat.le_trans this (pow_small hL (by omega))) fun r hr => ⟨_, rfl, by
      have := (rowsN_ok L k r hr).len
      simp [tR, nD]
      rw [big]; omega⟩
  have hs : (sAsg (eFz (oLst (lC (eTup (lC (eC (.int 0)) lN)) lN))) (gN 2)) (ent 2 6 [.v (nD L), .v (.int ((k : Int) + 2))]) w2 = .nx [some (Sl.v (nD L)), some (.v (.int ((k : Int) + 2))), some (.v (.list ((rowsN L 0).map tR))), none, none, none] w2 := by
    simp [big]
    rfl
  rw [u_sSeq, hs, seqK_nx, u_sSeq, u_sFor, e0, bindS_ok, e, seqK_nx, u_sRet, u_eFz, e2, bind_ok, bindS_ok]
  rfl
theorem allM_ok {L k : Nat} {row : List Int} (h : row ∈ allM L k) : row.length = k + 2 ∧ row.getLast? = some (L : Int) := by
  obtain ⟨r, hr, rfl⟩ := List.mem_map.mp h
  exact ⟨by simp [(rowsN_ok L k r hr).len], by simp⟩
theorem allM_len (L k : Nat) (hL : L ≤ 14) (hk : k ≤ 4) : (allM L k).length ≤ sizeLine := by
  unfold allM
  rw [List.length_map, big]
  exact Nat.le_trans (rowsN_len L k) (pow_small hL (by omega))
def found (L k : Nat) : List (List Int) := (allM L k).filter (wholeB L)
theorem found_lc (L k : Nat) (hL : L ≤ 14) (hk : k ≤ 4) (x : Option Sl) (w : Wd) : oLc (iS (eCallF 2 m_all_marks (aCons (eV 0) (aCons (eV 1) aNil)))) (gN 3) (tstV (eCallF 1 m_are_whole (aCons (eV 3) aNil))) (eV 3) [3] [some (.v (nD L)), some (.v (.int ((k : Int) + 2))), x, none] w = .ok ((found L k).map tR) w := by
  refine oLc_filt (xs := allM L k) tR (wholeB L) (by simp [s_all_marks L k hL hk]) (allM_len L k hL hk) fun row hr => ⟨_, rfl, ?_, by simp⟩
  obtain ⟨h1, h2⟩ := allM_ok hr
  simp [s_are_whole row L (by omega) (by omega) h2]
theorem s_while (L k0 : Nat) (hL : L ≤ 14) (hk0 : k0 ≤ 4) (h0 : found L k0 ≠ []) (w : Wd) : ∀ (j k n : Nat), k + j = k0 → j < n → (∀ i, i < k0 → found L i = []) →
    whl (tCm dEq (eCall gLen (lC (eBw 2) lN)) (eC (.int 0))) (sSeq (sAug 1 dIadd (eC (.int 1)))
  (sSeq (sOwn (oLc (iS (eCallF 2 m_all_marks (aCons (eV 0) (aCons (eV 1) aNil)))) (gN 3) (tstV (eCallF 1 m_are_whole (aCons (eV 3) aNil))) (eV 3) [3]) 2)
  (sSeq (sFz 2) sNil))) n [some (.v (nD L)), some (.v (.int ((k : Int) + 2))), some (.v (.list ((found L k).map tR))), none] w =
    .nx [some (.v (nD L)), some (.v (.int ((k0 : Int) + 2))), some (.v (.list ((found L k0).map tR))), none] w
  | 0, k, n + 1, e, _, _ => by
    rw [Nat.add_zero] at e
    subst e
    have : ((found L k).length : Int) ≠ 0 := by
      have := List.length_pos_iff.mpr h0
      omega
    unfold whl
    simp [dEq_int, h0]
  | j + 1, k, n + 1, e, hn, h => by
    have hk : found L k = [] := h k (by omega)
    unfold whl
    simp [dEq_int, hk, sAug, found_lc L (k + 1) hL (by omega)]
    have e2 : (k : Int) + 2 + 1 = ((k + 1 : Nat) : Int) + 2 := by omega
    rw [e2, found_lc L (k + 1) hL (by omega)]
    simp only [bindS_ok, seqK_nx, List.set_cons_succ, List.set_cons_zero, List.getElem?_cons_succ, List.getElem?_cons_zero]
    exact s_while L k0 hL hk0 h0 w j (k + 1) n (by omega) (by omega) h
end K98

set_option Elab.async false
set_option linter.all false
set_option maxRecDepth 100000
set_option maxHeartbeats 4000000
namespace K98
open PySem PySem.Spec L2 DL DG PyProof.Rows PySem.W DM
theorem s_whole_marks (L k0 : Nat) (hL : L ≤ 14) (hk0 : k0 ≤ 4) (x : List Int) (xs : List (List Int)) (h0 : found L k0 = x :: xs) (h : ∀ i, i < k0 → found L i = []) (w : Wd) : m_whole_marks [.v (nD L)] w = .ok (tR (minR x xs)) w := by
  unfold m_whole_marks
  rw [fnD_eq]
  unfold f_whole_marks
  have e1 := found_lc L 0 hL (by omega) none w
  have e2 := s_while L k0 hL hk0 (by rw [h0]; simp) w k0 0 16 (by omega) (by omega) h
  have c0 : ((0 : Nat) : Int) + 2 = 2 := rfl
  rw [c0] at e1 e2
  simp only [u_sSeq, u_sAsg, u_eC, bindS_ok, u_ent, List.map_cons, List.map_nil, List.cons_append, List.nil_append, Nat.reduceSub, List.replicate_succ, List.replicate_zero, u_gN, List.length_cons, List.length_nil, Nat.reduceAdd, Nat.reduceLT, if_true, ofO_some, seqK_nx, u_sOwn, List.set_cons_succ, List.set_cons_zero, e1, u_sFz, List.getElem?_cons_succ, List.getElem?_cons_zero, e2]
  simp only [u_sRet, u_eCall, u_lC, u_eBw, List.getElem?_cons_succ, List.getElem?_cons_zero, u_lN, bind_ok, h0, gMin_rows, of_some, bindS_ok, fnR_rt]
theorem int1 (k : Nat) : PyData.int (1 + (k : Int)) = nD (k + 1) := by unfold nD; congr 1; omega
def lwL (k : Nat) : List Nat := (List.range 14).filter fun j => (allM (j + 1 : Nat) k).any (wholeB (j + 1))
def ssL (k : Nat) : List Nat := (List.range 14).filter fun j => (allM (j + 1 : Nat) k).any singleB
theorem r14 {ρ : Ev} {w : Wd} : iR2 (eC (.int 1)) (eBin dAdd (eC (.int 14)) (eC (.int 1))) ρ w = .ok ((List.range 14).map fun k => nD (k + 1)) w := by
  rw [iR2_ok (i := 1) (j := 15) (w1 := w) (w2 := w) rfl (by simp) (by omega) (by omega) (by omega) (by omega)]
  congr 1
theorem s_longest (k : Nat) (hk : k ≤ 4) (j : Nat) (js : List Nat) (h : lwL k = j :: js) (w : Wd) : m_longest_whole [.v (.int ((k : Int) + 2))] w = .ok (.int ((js.map fun n : Nat => ((n + 1 : Nat) : Int)).foldl max ((j + 1 : Nat) : Int))) w := by
  unfold m_longest_whole
  rw [fnD_eq]
  unfold f_longest_whole
  have e0 := s_is_number (.int ((k : Int) + 2)) rfl 2 6
  have e1 : oLc (iR2 (eC (.int 1)) (eBin dAdd (eC (.int 14)) (eC (.int 1)))) (gN 2) (tstV (eGen false (iS (eCallF 2 m_all_marks (aCons (eV 2) (aCons (eV 0) aNil)))) (gN 3) oYes (eCallF 1 m_are_whole (aCons (eV 3) aNil)) [3])) (eV 2) [2] [some (.v (.int ((k : Int) + 2))), none, none, none] w = .ok ((lwL k).map fun n => nD (n + 1)) w :=
    oLc_filt (xs := List.range 14) (fun n => nD (n + 1)) (fun j => (allM (j + 1 : Nat) k).any (wholeB (j + 1))) r14 (by rw [big]; simp) fun n hn => by
      rw [List.mem_range] at hn
      refine ⟨_, rfl, ?_, by simp⟩
      rw [u_tstV, eAny_map (w1 := w) (xs := allM (n + 1 : Nat) k) tR (wholeB (n + 1)) (by simp [s_all_marks (n + 1) k (by omega) hk]) fun row hr => ⟨_, rfl, rfl, by
        obtain ⟨h1, h2⟩ := allM_ok hr
        simp [s_are_whole row (n + 1) (by omega) (by omega) h2]⟩]
      rfl
  have hb : numB (.int ((k : Int) + 2)) 2 6 = true := by simp [numB]; omega
  rw [h] at e1
  simp [e0, hb, e1]
  rw [show (nD (j + 1) :: js.map fun n => nD (n + 1)) = (((j + 1 : Nat) : Int) :: js.map fun n : Nat => ((n + 1 : Nat) : Int)).map PyData.int by simp [nD], gMax_ints]
  simp
theorem s_shortest (k : Nat) (hk : k ≤ 3) (j : Nat) (js : List Nat) (h : ssL k = j :: js) (w : Wd) : m_shortest_single [.v (.int ((k : Int) + 2))] w = .ok (.int ((js.map fun n : Nat => ((n + 1 : Nat) : Int)).foldl min ((j + 1 : Nat) : Int))) w := by
  unfold m_shortest_single
  rw [fnD_eq]
  unfold f_shortest_single
  have e0 := s_is_number (.int ((k : Int) + 2)) rfl 2 5
  have e1 : oLc (iR2 (eC (.int 1)) (eBin dAdd (eC (.int 14)) (eC (.int 1)))) (gN 2) (tstV (eGen false (iS (eCallF 2 m_all_marks (aCons (eV 2) (aCons (eV 0) aNil)))) (gN 3) oYes (eCallF 1 m_are_single (aCons (eV 3) aNil)) [3])) (eV 2) [2] [some (.v (.int ((k : Int) + 2))), none, none, none] w = .ok ((ssL k).map fun n => nD (n + 1)) w :=
    oLc_filt (xs := List.range 14) (fun n => nD (n + 1)) (fun j => (allM (j + 1 : Nat) k).any singleB) r14 (by rw [big]; simp) fun n hn => by
      rw [List.mem_range] at hn
      refine ⟨_, rfl, ?_, by simp⟩
      rw [u_tstV, eAny_map (w1 := w) (xs := allM (n + 1 : Nat) k) tR singleB (by simp [s_all_marks (n + 1) k (by omega) (by omega)]) fun row hr => ⟨_, rfl, rfl, by
        obtain ⟨h1, h2⟩ := allM_ok hr
        simp [s_are_single row (by omega)]⟩]
      rfl
  have hb : numB (.int ((k : Int) + 2)) 2 5 = true := by simp [numB]; omega
  rw [h] at e1
  simp [e0, hb, e1]
  rw [show (nD (j + 1) :: js.map fun n => nD (n + 1)) = (((j + 1 : Nat) : Int) :: js.map fun n : Nat => ((n + 1 : Nat) : Int)).map PyData.int by simp [nD], gMin_ints]
  simp
theorem s_longest_x (m : Int) (h : m < 2 ∨ 6 < m) (w : Wd) : m_longest_whole [.v (.int m)] w = .exc "OutOfRange" w := by
  unfold m_longest_whole
  rw [fnD_eq]
  unfold f_longest_whole
  have hb : numB (.int m) 2 6 = false := by simp [numB]; omega
  simp [s_is_number (.int m) rfl 2 6, hb]
theorem s_shortest_x (m : Int) (h : m < 2 ∨ 5 < m) (w : Wd) : m_shortest_single [.v (.int m)] w = .exc "OutOfRange" w := by
  unfold m_shortest_single
  rw [fnD_eq]
  unfold f_shortest_single
  have hb : numB (.int m) 2 5 = false := by simp [numB]; omega
  simp [s_is_number (.int m) rfl 2 5, hb]
theorem s_told0 (m : Int) (n : Int) (w : Wd) (h : m_longest_whole [.v (.int m)] w = .ok (.int n) w) : m__law_told [.v (.int 0), .v (.int m)] w = .ok (.int n) w := by
  unfold m__law_told
  rw [fnD_eq]
  unfold f__law_told sTryIs
  simp [dEq_int, h]
theorem s_told1 (m : Int) (n : Int) (w : Wd) (h : m_shortest_single [.v (.int m)] w = .ok (.int n) w) : m__law_told [.v (.int 1), .v (.int m)] w = .ok (.int n) w := by
  unfold m__law_told
  rw [fnD_eq]
  unfold f__law_told sTryIs
  simp [dEq_int, h]
theorem s_told0x (m : Int) (w : Wd) (h : m_longest_whole [.v (.int m)] w = .exc "OutOfRange" w) : m__law_told [.v (.int 0), .v (.int m)] w = .ok (.str "range") w := by
  unfold m__law_told
  rw [fnD_eq]
  unfold f__law_told sTryIs
  simp [dEq_int, h]
theorem s_told1x (m : Int) (w : Wd) (h : m_shortest_single [.v (.int m)] w = .exc "OutOfRange" w) : m__law_told [.v (.int 1), .v (.int m)] w = .ok (.str "range") w := by
  unfold m__law_told
  rw [fnD_eq]
  unfold f__law_told sTryIs
  simp [dEq_int, h]
end K98

set_option Elab.async false
set_option linter.all false
set_option maxRecDepth 100000
set_option maxHeartbeats 4000000
namespace K98
open PySem PySem.Spec L2 DL DG PyProof.Rows PySem.W DM
theorem dEq_self {d : D} (h : d.plain = true) (hd : d.depth ≤ 64) : dEq d d = some (.bool true) := by
  unfold dEq eqOk
  rw [h, PySem.SeqAt.eqv_refl_plain d h]
  simp [hd]
mutual
def sml : D → Bool
  | .list xs | .tuple xs => decide (xs.length ≤ 100000) && smlAll xs
  | .none | .bool _ | .int _ | .str _ | .dict _ => true
def smlAll : List D → Bool
  | [] => true
  | x :: xs => sml x && smlAll xs
end
theorem sml_get : ∀ (xs : List D) (k : Nat) (d : D), smlAll xs = true → xs[k]? = some d → sml d = true
  | [], k, d, _, h => by simp at h
  | x :: xs, 0, d, hp, h => by
    simp at h
    subst h
    simp only [smlAll, Bool.and_eq_true] at hp
    exact hp.1
  | x :: xs, k + 1, d, hp, h => by
    simp only [smlAll, Bool.and_eq_true] at hp
    exact sml_get xs k d hp.2 (by simpa using h)
theorem plain_get : ∀ (xs : List D) (k : Nat) (d : D), PyData.plainAll xs = true → xs[k]? = some d → d.plain = true ∧ d.depth ≤ PyData.depthAll xs
  | [], k, d, _, h => by simp at h
  | x :: xs, 0, d, hp, h => by
    simp at h
    subst h
    simp only [PyData.plainAll, Bool.and_eq_true] at hp
    rw [PyData.depthAll]
    exact ⟨hp.1, Nat.le_max_left _ _⟩
  | x :: xs, k + 1, d, hp, h => by
    simp only [PyData.plainAll, Bool.and_eq_true] at hp
    obtain ⟨a, b⟩ := plain_get xs k d hp.2 (by simpa using h)
    rw [PyData.depthAll]
    exact ⟨a, Nat.le_trans b (Nat.le_max_right _ _)⟩
def lawSame (j : Nat) (d : D) (w : Wd) : Prop := m__law_same j [.v d, .v d] w = .ok (.bool true) w
theorem same_loop (j : Nat) (w : Wd) (ty : List D → D) (hty : ty = PyData.list ∨ ty = PyData.tuple) (xs : List D) (ih : ∀ (k : Nat) (d : D), xs[k]? = some d → lawSame j d w) (x : Option Sl) :
    ∃ y, forL (gN 2) (sIf (tNo (tstV (eCallF 2 (m__law_same j) (aCons (eBin dIx (eBw 0) (eBw 2)) (aCons (eBin dIx (eBw 1) (eBw 2)) aNil))))) (sRet (eC (.bool false))) sNil) ((List.range xs.length).map nD)
      [some (.v (ty xs)), some (.v (ty xs)), x] w = .nx [some (.v (ty xs)), some (.v (ty xs)), y] w := by
  obtain ⟨ρ2, w2, e, ⟨rfl, y, rfl⟩⟩ := forL_keep nD (tgt := gN 2) (body := sIf (tNo (tstV (eCallF 2 (m__law_same j) (aCons (eBin dIx (eBw 0) (eBw 2)) (aCons (eBin dIx (eBw 1) (eBw 2)) aNil))))) (sRet (eC (.bool false))) sNil)
    (fun ρ w' => w' = w ∧ ∃ y, ρ = [some (.v (ty xs)), some (.v (ty xs)), y]) (List.range xs.length) [some (.v (ty xs)), some (.v (ty xs)), x] w ⟨rfl, x, rfl⟩ (by
      rintro k hk ρ w' ⟨rfl, y, rfl⟩
      rw [List.mem_range] at hk
      obtain ⟨d, hd⟩ : ∃ d, xs[k]? = some d := ⟨_, List.getElem?_eq_getElem hk⟩
      have e := ih k d hd
      unfold lawSame at e
      refine ⟨_, [some (.v (ty xs)), some (.v (ty xs)), some (.v (nD k))], w', rfl, .inl ?_, rfl, _, rfl⟩
      have hx : dIx (ty xs) (nD k) = some d := by
        rcases hty with rfl | rfl <;> (unfold nD; simp; exact atI_nat hd)
      simp [hx, e])
  exact ⟨y, e⟩
theorem s_same : ∀ (j : Nat) (d : D) (w : Wd), d.plain = true → sml d = true → d.depth < j → j ≤ 60 → m__law_same j [.v d, .v d] w = .ok (.bool true) w
  | 0, d, w, _, _, h, _ => absurd h (by omega)
  | j + 1, d, w, hp, hs, hd, hj => by
    unfold m__law_same
    rw [fnD_eq]
    unfold f__law_same
    cases d with
    | none => simp [DL.isNon, eAn]
    | bool b => simp [DL.isNon, eAn, isTy, PyData.plain, PyData.isTuple, PyData.isList, PyData.isBool, PyData.isInt, PyData.isStr, dNe_bool, dEq_bool]
    | int i => simp [DL.isNon, eAn, isTy, PyData.plain, PyData.isTuple, PyData.isList, PyData.isBool, PyData.isInt, PyData.isStr, dNe_bool, dEq_int]
    | str x => simp [DL.isNon, eAn, isTy, PyData.plain, PyData.isTuple, PyData.isList, PyData.isBool, PyData.isInt, PyData.isStr, dNe_bool, dEq_self hp (by omega)]
    | dict _ => simp [PyData.plain] at hp
    | list xs =>
      have hp' : PyData.plainAll xs = true := by simpa [PyData.plain] using hp
      have hs' : xs.length ≤ 100000 ∧ smlAll xs = true := by simpa [sml] using hs
      have hd' : PyData.depthAll xs < j := by simp only [PyData.depth] at hd; omega
      obtain ⟨y, e⟩ := same_loop j w PyData.list (.inl rfl) xs (fun k d h => s_same j d w (plain_get xs k d hp' h).1 (sml_get xs k d hs'.2 h) (by have := (plain_get xs k d hp' h).2; omega) (by omega)) none
      have hl : iR1 (eCall gLen (lC (eBw 1) lN)) [some (.v (.list xs)), some (.v (.list xs)), none] w = .ok ((List.range xs.length).map nD) w := by
        rw [iR1_ok (j := (xs.length : Int)) (w1 := w) (by simp) (by omega) (by omega)]
        rfl
      simp [DL.isNon, eAn, isTy, hp, PyData.isTuple, PyData.isList, dNe_bool, dNe_int, hl, e]
    | tuple xs =>
      have hp' : PyData.plainAll xs = true := by simpa [PyData.plain] using hp
      have hs' : xs.length ≤ 100000 ∧ smlAll xs = true := by simpa [sml] using hs
      have hd' : PyData.depthAll xs < j := by simp only [PyData.depth] at hd; omega
      obtain ⟨y, e⟩ := same_loop j w PyData.tuple (.inr rfl) xs (fun k d h => s_same j d w (plain_get xs k d hp' h).1 (sml_get xs k d hs'.2 h) (by have := (plain_get xs k d hp' h).2; omega) (by omega)) none
      have hl : iR1 (eCall gLen (lC (eBw 1) lN)) [some (.v (.tuple xs)), some (.v (.tuple xs)), none] w = .ok ((List.range xs.length).map nD) w := by
        rw [iR1_ok (j := (xs.length : Int)) (w1 := w) (by simp) (by omega) (by omega)]
        rfl
      simp [DL.isNon, eAn, isTy, hp, PyData.isTuple, PyData.isList, dNe_bool, dNe_int, hl, e]
theorem s_same' (d : D) (w : Wd) (h1 : d.plain = true) (h2 : sml d = true) (h3 : d.depth < 4) : m__law_same 4 [.v d, .v d] w = .ok (.bool true) w := s_same 4 d w h1 h2 h3 (by omega)
theorem sml_ints : ∀ xs : List Int, smlAll (xs.map .int) = true
  | [] => rfl
  | x :: xs => by rw [List.map_cons, smlAll, sml_ints xs]; rfl
theorem sml_tR (xs : List Int) (h : xs.length ≤ 1000) : sml (tR xs) = true := by
  unfold tR
  simp [sml, sml_ints]
  omega
end K98

set_option Elab.async false
set_option linter.all false
set_option maxRecDepth 100000
set_option maxHeartbeats 4000000
namespace K98
open PySem PySem.Spec L2 DL DG PyProof.Rows PySem.W DM
def prOf (a : Int) (qs : List Int) : List Int := (qs.filter fun b => decide (a < b)).map fun b => b - a
def prs (xs ps : List Int) : List Int := ps.flatMap fun a => prOf a xs
def pairsOf (xs : List Int) : List Int := prs xs xs
theorem prOf_len (a : Int) (qs : List Int) : (prOf a qs).length ≤ qs.length := by
  unfold prOf
  rw [List.length_map]
  exact List.length_filter_le _ _
theorem prs_len (xs : List Int) : ∀ ps, (prs xs ps).length ≤ ps.length * xs.length
  | [] => Nat.zero_le _
  | p :: ps => by
    have := prs_len xs ps
    have := prOf_len p xs
    show (prOf p xs ++ prs xs ps).length ≤ _
    rw [List.length_append, List.length_cons, Nat.succ_mul]
    omega
abbrev bIn : Sf := sIf (tCm dLt (eBw 2) (eBw 3)) (sDput 1 (eBin dSub (eBw 3) (eBw 2)) (eBin dAdd (eGet2 (eBw 1) (eBin dSub (eBw 3) (eBw 2)) (eC (.int 0))) (eC (.int 1)))) sNil
theorem cnt_step (X y : Option Sl) (a b : Int) (K ks : List Int) (h : CntOk K ks) (hl : ks.length ≤ 100000) (w : Wd) :
    ∃ K', CntOk K' (ks ++ if a < b then [b - a] else []) ∧ bIn [X, some (.od (cntD K ks)), some (.v (.int a)), some (.v (.int b))] w = .nx [X, some (.od (cntD K' (ks ++ if a < b then [b - a] else []))), some (.v (.int a)), some (.v (.int b))] w := by
  by_cases q : a < b
  · obtain ⟨K', h1, h2⟩ := cnt_put h (b - a)
    refine ⟨K', by rw [if_pos q]; exact h1, ?_⟩
    rw [if_pos q]
    have hg := cnt_get h (b - a)
    have hk : (cntD K ks).length < sizeLine := by unfold cntD; rw [List.length_map, big]; have := h.len; omega
    simp [q, sDput, eGet2, dkey, hg, hk, h2]
  · refine ⟨K, by rw [if_neg q, List.append_nil]; exact h, ?_⟩
    rw [if_neg q, List.append_nil]
    simp [q]
theorem prOf_snoc (a : Int) (p : List Int) (b : Int) : prOf a (p ++ [b]) = prOf a p ++ if a < b then [b - a] else [] := by
  unfold prOf
  rw [List.filter_append, List.map_append]
  by_cases q : a < b <;> simp [q]
theorem cnt_inner (X y : Option Sl) (a : Int) (xs K ks : List Int) (h : CntOk K ks) (hx : xs.length ≤ 100) (hl : ks.length ≤ 20000) (w : Wd) :
    ∃ K' y', CntOk K' (ks ++ prOf a xs) ∧ forL (gN 3) bIn (xs.map PyData.int) [X, some (.od (cntD K ks)), some (.v (.int a)), y] w = .nx [X, some (.od (cntD K' (ks ++ prOf a xs))), some (.v (.int a)), y'] w := by
  obtain ⟨ρ2, w2, e, ⟨rfl, K', y', hK, rfl⟩⟩ := forL_inv PyData.int (tgt := gN 3) (body := bIn) (fun ps ρ w' => w' = w ∧ ∃ K' y', CntOk K' (ks ++ prOf a ps) ∧ ρ = [X, some (.od (cntD K' (ks ++ prOf a ps))), some (.v (.int a)), y']) xs [] [X, some (.od (cntD K ks)), some (.v (.int a)), y] w
    ⟨rfl, K, y, by show CntOk K (ks ++ []); rw [List.append_nil]; exact h, by show _ = [X, some (.od (cntD K (ks ++ []))), some (.v (.int a)), y]; rw [List.append_nil]⟩ (by
      rintro p b q ρ w' hx2 ⟨rfl, K', y', hK, rfl⟩
      have hp : p.length ≤ 100 := by
        have := congrArg List.length hx2
        simp at this
        omega
      have := prOf_len a p
      obtain ⟨K2, h1, h2⟩ := cnt_step X y' a b K' _ hK (by rw [List.length_append]; omega) w'
      rw [List.append_assoc, ← prOf_snoc] at h1 h2
      exact ⟨_, _, w', rfl, .inl h2, rfl, K2, _, h1, rfl⟩)
  exact ⟨K', y', hK, e⟩
theorem prs_snoc (xs p : List Int) (b : Int) : prs xs (p ++ [b]) = prs xs p ++ prOf b xs := by
  unfold prs
  rw [List.flatMap_append]
  simp
theorem s_counts (xs : List Int) (hx : xs.length ≤ 100) (w : Wd) : ∃ K, CntOk K (pairsOf xs) ∧ m__law_counts [.v (tR xs)] w = .ok (.dict (cntD K (pairsOf xs))) w := by
  obtain ⟨ρ2, w2, e, ⟨rfl, K', x', y', hK, rfl⟩⟩ := forL_inv PyData.int (tgt := gN 2) (body := sFor (iS (eV 0)) (gN 3) bIn) (fun ps ρ w' => w' = w ∧ ∃ K' x' y', CntOk K' (prs xs ps) ∧ ρ = [some (.v (tR xs)), some (.od (cntD K' (prs xs ps))), x', y']) xs [] [some (.v (tR xs)), some (.od []), none, none] w
    ⟨rfl, [], none, none, ⟨fun k => Iff.rfl, Nat.le_refl _⟩, rfl⟩ (by
      rintro p b q ρ w' hx2 ⟨rfl, K', x', y', hK, rfl⟩
      have hp : p.length ≤ 100 := by
        have := congrArg List.length hx2
        simp at this
        omega
      have h3 := prs_len xs p
      have h4 : p.length * xs.length ≤ 100 * 100 := Nat.mul_le_mul hp hx
      obtain ⟨K2, y2, h1, h2⟩ := cnt_inner (some (.v (tR xs))) y' b xs K' _ hK hx (by omega) w'
      rw [← prs_snoc] at h1 h2
      refine ⟨_, _, w', rfl, .inl ?_, rfl, K2, some (.v (.int b)), y2, h1, rfl⟩
      rw [u_sFor]
      simp only [u_iS, u_eV, List.set_cons_succ, List.set_cons_zero, List.getElem?_cons_zero, bind_ok, tR, u_seqT, of_some, bindS_ok]
      exact h2)
  refine ⟨K', hK, ?_⟩
  unfold m__law_counts
  rw [fnD_eq]
  unfold f__law_counts
  rw [List.nil_append] at e
  simp only [u_sSeq, u_sDnew, u_ent, List.map_cons, List.map_nil, List.cons_append, List.nil_append, Nat.reduceSub, List.replicate_succ, List.replicate_zero, List.length_cons, List.length_nil, Nat.reduceAdd, Nat.reduceLT, if_true, seqK_nx, List.set_cons_succ, List.set_cons_zero]
  rw [u_sFor]
  simp only [u_iS, u_eV, List.getElem?_cons_zero, bind_ok, tR, u_seqT, of_some, bindS_ok]
  rw [show PyData.tuple (xs.map PyData.int) = tR xs from rfl, e]
  simp
  rfl
def wholeP (L : Nat) (xs : List Int) : Bool := (List.range L).all fun k => decide (((1 : Int) + (k : Int)) ∈ pairsOf xs)
def singleP (xs : List Int) : Bool := decide (pairsOf xs).Nodup
theorem s_judged (xs : List Int) (L : Nat) (h : xs.length ≤ 100) (hL : L ≤ 1000) (hx : xs.getLast? = some (L : Int)) (w : Wd) : m__law_judged [.v (tR xs)] w = .ok (.tuple [.bool (wholeP L xs), .bool (singleP xs)]) w := by
  obtain ⟨K, hK, e⟩ := s_counts xs h w
  have h3 := prs_len xs xs
  have h4 : xs.length * xs.length ≤ 100 * 100 := Nat.mul_le_mul h h
  have hKl : K.length ≤ 10000 := by have := hK.len; unfold pairsOf at this; omega
  unfold m__law_judged
  rw [fnD_eq]
  unfold f__law_judged
  have e1 := oLc_filt (fi := iR2 (eC (.int 1)) (eBin dAdd (eBin dIx (eBw 0) (eNeg (eC (.int 1)))) (eC (.int 1)))) (tgt := gN 3) (tt := tCm (dIn2 true) (eBw 3) (eBw 1)) (fe := eV 3) (vs := [3]) (ρ := [some (.v (tR xs)), some (.v (.dict (cntD K (pairsOf xs)))), none, none]) (w := w) (w1 := w)
    (xs := List.range L) (fun k : Nat => PyData.int (1 + (k : Int))) (fun k => !decide (((1 : Int) + (k : Int)) ∈ pairsOf xs)) (by
      rw [iR2_ok (i := 1) (j := (L : Int) + 1) (w1 := w) (w2 := w) rfl (by simp [tR, atI_map_last PyData.int hx]) (by omega) (by omega) (by omega) (by omega)]
      simp) (by rw [List.length_range, big]; omega) fun k hk => ⟨_, rfl, by
        have := cnt_val K (pairsOf xs) (1 + (k : Int))
        simp only [u_tCm, u_eBw, u_wipe0, u_wipe1, List.set_cons_succ, List.set_cons_zero, List.getElem?_cons_succ, List.getElem?_cons_zero, bind_ok, dIn2, dkey, Option.map_some, this]
        by_cases q : (1 + (k : Int)) ∈ pairsOf xs
        · rw [if_pos ((hK.mem _).mpr q)]
          simp [q]
        · rw [if_neg fun z => q ((hK.mem _).mp z)]
          simp [q], by simp⟩
  have e2 := oLc_filt (fi := iDk (eV 1)) (tgt := gN 3) (tt := tCm dGt (eBin dDix (eBw 1) (eBw 3)) (eC (.int 1))) (fe := eV 3) (vs := [3]) (ρ := [some (.v (tR xs)), some (.v (.dict (cntD K (pairsOf xs)))), some (.v (.bool (wholeP L xs))), none]) (w := w) (w1 := w)
    (xs := K) PyData.int (fun k => decide (1 < (pairsOf xs).count k)) (by
      simp [iDk, fstD, cntD]) (by rw [big]; omega) fun k hk => ⟨_, rfl, by
        have := cnt_val K (pairsOf xs) k
        rw [if_pos hk] at this
        simp [dDix, dkey, this]
        omega, by simp⟩
  have p1 : ((List.range L).filter fun (k : Nat) => !decide (((1 : Int) + (k : Int)) ∈ pairsOf xs)).map (fun k : Nat => PyData.int (1 + (k : Int))) = (((List.range L).filter fun (k : Nat) => !decide (((1 : Int) + (k : Int)) ∈ pairsOf xs)).map fun k : Nat => (1 : Int) + (k : Int)).map PyData.int := by rw [List.map_map]; rfl
  have q1 : (((List.range L).filter fun (k : Nat) => !decide (((1 : Int) + (k : Int)) ∈ pairsOf xs)).map fun k : Nat => (1 : Int) + (k : Int)).isEmpty = wholeP L xs := by
    unfold wholeP
    rw [List.isEmpty_map, Bool.eq_iff_iff]
    simp
  have q2 : (K.filter fun k => decide (1 < (pairsOf xs).count k)).isEmpty = singleP xs := by
    unfold singleP
    rw [Bool.eq_iff_iff, decide_eq_true_eq, List.nodup_iff_count]
    simp
    constructor
    · intro q a
      by_cases z : a ∈ K
      · exact q a z
      · rw [List.count_eq_zero_of_not_mem fun y => z ((hK.mem a).mpr y)]; omega
    · exact fun q a _ => q a
  rw [p1] at e1
  simp only [u_sSeq, u_sAsg, u_eCallF, u_aCons, u_aNil, u_eV, u_ent, List.map_cons, List.map_nil, List.cons_append, List.nil_append, Nat.reduceSub, List.replicate_succ, List.replicate_zero, List.getElem?_cons_zero, List.getElem?_cons_succ, bind_ok, List.length_cons, List.length_nil, Nat.reduceAdd, if_true, e, bindS_ok, u_gN, Nat.reduceLT, ofO_some, seqK_nx, List.set_cons_succ, List.set_cons_zero, u_eBin, u_eFz, e1, u_oLst, u_lN, Nat.zero_le, dEq_nil (plain_ints _), List.isEmpty_map, of_some]
  rw [List.isEmpty_map] at q1
  rw [q1]
  simp only [u_sRet, u_eTup, u_lC, u_eV, u_eBin, u_eFz, List.getElem?_cons_zero, List.getElem?_cons_succ, bind_ok, e2, u_oLst, u_lN, List.length_nil, Nat.zero_le, if_true, dEq_nil (plain_ints _), of_some, List.isEmpty_map, q2, List.length_cons]
  rw [if_pos (by rw [big]; omega)]
  rfl
end K98

set_option Elab.async false
set_option linter.all false
set_option maxRecDepth 100000
set_option maxHeartbeats 4000000
namespace K98
open PySem PySem.Spec L2 DL DG PyProof.Rows PySem.W DM
theorem dEq_tR (a b : List Int) : dEq (tR a) (tR b) = some (.bool (decide (a = b))) := by
  have := dEq_datum (α := PySem.W.Tup Int) (by decide) ⟨a⟩ ⟨b⟩
  rw [show decide (a = b) = decide ((⟨a⟩ : PySem.W.Tup Int) = ⟨b⟩) by simp]
  exact this
theorem dNe_tR (a b : List Int) : dNe (tR a) (tR b) = some (.bool (!decide (a = b))) := by
  have := dNe_datum (α := PySem.W.Tup Int) (by decide) ⟨a⟩ ⟨b⟩
  rw [show decide (a = b) = decide ((⟨a⟩ : PySem.W.Tup Int) = ⟨b⟩) by simp]
  exact this
theorem cut_last {α : Type} (xs : List α) : DL.cut xs (some (-1)) none = xs.drop (xs.length - 1) := by
  unfold DL.cut
  have e2 : HT.sIx xs.length xs.length none = xs.length := rfl
  have e1 : HT.sIx xs.length 0 (some (-1)) = xs.length - 1 := by
    simp [HT.sIx]
    omega
  rw [e1, e2]
  exact List.take_of_length_le (by rw [List.length_drop]; omega)
theorem dCut_take1 (xs : List Int) : dCut none (some 1) (tR xs) = some (tR (xs.take 1)) := by
  show some (PyData.tuple (DL.cut (xs.map PyData.int) none (some 1))) = some (PyData.tuple ((xs.take 1).map PyData.int))
  rw [show (1 : Int) = ((1 : Nat) : Int) from rfl, cut_take, List.map_take]
theorem dCut_last1 (xs : List Int) : dCut (some (-1)) none (tR xs) = some (tR (xs.drop (xs.length - 1))) := by
  show some (PyData.tuple (DL.cut (xs.map PyData.int) (some (-1)) none)) = some (PyData.tuple ((xs.drop (xs.length - 1)).map PyData.int))
  rw [cut_last, List.length_map, List.map_drop]
theorem lenB {X Y Z : Option Sl} {xs : List Int} {w : Wd} : eBin dSub (eCall gLen (lC (eBw 1) lN)) (eC (.int 1)) [X, some (.v (tR xs)), Y, Z] w = .ok (.int ((xs.length : Int) - 1)) w := by simp [tR]
def marksB (L : Nat) (xs : List Int) : Bool := (xs.all fun x => decide (0 ≤ x) && decide (x ≤ (L : Int))) && (decide (xs.take 1 = [0]) && (decide (xs.drop (xs.length - 1) = [(L : Int)]) && asc xs))
theorem isTup (ds : List D) (h : PyData.plainAll ds = true) : isTy "tuple" (.tuple ds) = some true := by simp [isTy, PyData.plain, h, PyData.isTuple]
theorem eAll1 (L : Nat) (ds : List D) (h : PyData.plainAll ds = true) (w : Wd) : eGen true (iS (eV 1)) (gN 3) oYes (eCallF 3 m_is_number (aCons (eV 3) (aCons (eC (.int 0)) (aCons (eV 0) aNil)))) [3] [some (.v (nD L)), some (.v (.tuple ds)), none, none] w = .ok (.bool (ds.all fun d => numB d 0 L)) w := by
  refine eAll_map (w1 := w) (xs := ds) id (fun d => numB d 0 L) (by simp) fun d hd => ⟨_, rfl, rfl, ?_⟩
  obtain ⟨k, hk⟩ := List.getElem?_of_mem hd
  have := (plain_get ds k d h hk).1
  simp [nD, s_is_number d this]
theorem s_marks_no (L : Nat) (ds : List D) (h : PyData.plainAll ds = true) (hn : (ds.all fun d => numB d 0 L) = false) (w : Wd) : m_are_marks [.v (nD L), .v (.tuple ds)] w = .ok (.bool false) w := by
  unfold m_are_marks
  rw [fnD_eq]
  unfold f_are_marks
  have e := eAll1 L ds h w
  rw [hn] at e
  simp [isTup ds h, e]
theorem s_marks_ty (L : Nat) (d : D) (h : d.plain = true) (ht : d.isTuple = false) (w : Wd) : m_are_marks [.v (nD L), .v d] w = .ok (.bool false) w := by
  unfold m_are_marks
  rw [fnD_eq]
  unfold f_are_marks
  simp [isTy, h, ht]
theorem s_marks (L : Nat) (xs : List Int) (hx : xs.length ≤ 1000) (w : Wd) : m_are_marks [.v (nD L), .v (tR xs)] w = .ok (.bool (marksB L xs)) w := by
  have e := eAll1 L (xs.map .int) (plain_ints xs) w
  have ea : ((xs.map PyData.int).all fun d => numB d 0 L) = xs.all fun x => decide (0 ≤ x) && decide (x ≤ (L : Int)) := by rw [List.all_map]; rfl
  rw [ea] at e
  rw [show PyData.tuple (xs.map PyData.int) = tR xs from rfl] at e
  have ht : isTy "tuple" (tR xs) = some true := isTup _ (plain_ints xs)
  have e3 : eGen true (iR1 (eBin dSub (eCall gLen (lC (eBw 1) lN)) (eC (.int 1)))) (gN 2) oYes (eBin dLt (eBin dIx (eBw 1) (eBw 2)) (eBin dIx (eBw 1) (eBin dAdd (eBw 2) (eC (.int 1))))) [2] [some (.v (nD L)), some (.v (tR xs)), none, none] w = .ok (.bool (asc xs)) w := by
    refine eAll_map (w1 := w) (xs := List.range (xs.length - 1)) nD (fun k => decide (xs.getD k 0 < xs.getD (k + 1) 0)) ?_ fun k hk => ⟨_, rfl, rfl, ?_⟩
    · rw [iR1_ok (j := (xs.length : Int) - 1) (w1 := w) lenB (by omega) (by omega)]
      congr 3
      omega
    · rw [List.mem_range] at hk
      have h1 : xs[k]? = some (xs.getD k 0) := by rw [List.getD_eq_getElem?_getD, List.getElem?_eq_getElem (by omega)]; rfl
      have h2 : xs[k + 1]? = some (xs.getD (k + 1) 0) := by rw [List.getD_eq_getElem?_getD, List.getElem?_eq_getElem (by omega)]; rfl
      have h3 : L2.atI (xs.map PyData.int) ((k : Int) + 1) = some (.int (xs.getD (k + 1) 0)) := atI_map (j := k + 1) PyData.int h2
      simp only [u_eBin, u_eBw, u_wipe0, u_wipe1, List.set_cons_succ, List.set_cons_zero, List.getElem?_cons_succ, List.getElem?_cons_zero, bind_ok, nD, tR, u_ixT, atI_map PyData.int h1, of_some, u_eC, u_addI, h3, u_ltI]
  unfold m_are_marks
  rw [fnD_eq]
  unfold f_are_marks marksB
  have t0 : (PyData.tuple [PyData.int 0]) = tR [0] := rfl
  have tL : (PyData.tuple [nD L]) = tR [(L : Int)] := rfl
  have one : (1 : Nat) ≤ sizeLine := by rw [big]; omega
  cases h1 : (xs.all fun x => decide (0 ≤ x) && decide (x ≤ (L : Int))) with
  | false =>
    rw [h1] at e
    simp [ht, e]
  | true =>
    rw [h1] at e
    by_cases h2 : xs.take 1 = [0]
    · by_cases h4 : xs.drop (xs.length - 1) = [(L : Int)]
      · simp [ht, e, dCut_take1, dCut_last1, one, t0, tL, dNe_tR, h2, h4, e3]
      · simp [ht, e, dCut_take1, dCut_last1, one, t0, tL, dNe_tR, h2, h4, e3]
    · simp [ht, e, dCut_take1, dCut_last1, one, t0, tL, dNe_tR, h2, e3]
def evB (ms : List Int) : List (List Int) := ms.foldl (fun f m => f ++ f.map fun row => row ++ [m]) [[]]
theorem evB_snoc (ms : List Int) (m : Int) : evB (ms ++ [m]) = evB ms ++ (evB ms).map fun row => row ++ [m] := by unfold evB; rw [List.foldl_append]; rfl
theorem evB_ok (n : Nat) : ∀ ms : List Int, ms.length = n → (evB ms).length = 2 ^ n ∧ ∀ row ∈ evB ms, row.length ≤ n := by
  induction n with
  | zero =>
    intro ms h
    rw [List.length_eq_zero_iff.mp h]
    exact ⟨rfl, fun row hr => by rw [List.mem_singleton.mp hr]; exact Nat.le_refl _⟩
  | succ n ih =>
    intro ms h
    obtain ⟨p, m, rfl⟩ : ∃ p m, ms = p ++ [m] := ⟨ms.dropLast, ms.getLast (by intro z; rw [z] at h; cases h), (List.dropLast_concat_getLast _).symm⟩
    obtain ⟨a, b⟩ := ih p (by simpa using h)
    rw [evB_snoc]
    refine ⟨by rw [List.length_append, List.length_map, a]; omega, fun row hr => ?_⟩
    rcases List.mem_append.mp hr with hr | hr
    · have := b row hr; omega
    · obtain ⟨r, hr2, rfl⟩ := List.mem_map.mp hr
      have := b r hr2
      simp; exact this
def every (L : Nat) : List (List Int) := (evB ((List.range (L - 1)).map fun (k : Nat) => (1 : Int) + (k : Int))).map fun row => [0] ++ row ++ [(L : Int)]
theorem every_ok {L : Nat} {row : List Int} (h : row ∈ every L) (hL : L ≤ 10) : row.length ≤ 12 ∧ row.getLast? = some (L : Int) := by
  obtain ⟨r, hr, rfl⟩ := List.mem_map.mp h
  have := (evB_ok _ _ rfl).2 r hr
  simp at this
  exact ⟨by simp; omega, List.getLast?_concat ..⟩
theorem every_len {L : Nat} (hL : L ≤ 10) : (every L).length = 2 ^ (L - 1) := by
  unfold every
  rw [List.length_map, (evB_ok _ _ rfl).1]
  simp
theorem s_all (L : Nat) (h1 : 1 ≤ L) (hL : L ≤ 10) (w : Wd) : m__law_all [.v (nD L)] w = .ok (.list ((every L).map tR)) w := by
  unfold m__law_all
  rw [fnD_eq]
  unfold f__law_all
  obtain ⟨ρ2, w2, e, ⟨rfl, a, rfl⟩⟩ := forL_inv (fun k : Nat => PyData.int (1 + (k : Int))) (tgt := gN 2) (body := (sAsg (eBin dAdd (eBw 1) (eFz (oLc (iS (eV 1)) (gN 3) oYes (eBin dAdd (eBw 3) (eTup (lC (eV 2) lN))) [3]))) (gN 1)))
    (fun ps ρ w' => w' = w ∧ ∃ a, ρ = [some (.v (nD L)), some (.v (.list ((evB (ps.map fun (k : Nat) => (1 : Int) + (k : Int))).map tR))), a, none]) (List.range (L - 1)) [] [some (.v (nD L)), some (.v (.list ((evB []).map tR))), none, none] w ⟨rfl, none, rfl⟩ (by
      rintro p k q ρ w' hx ⟨rfl, a, rfl⟩
      have hp : p.length < 9 := by
        have := congrArg List.length hx
        simp at this
        omega
      obtain ⟨l1, l2⟩ := evB_ok p.length (p.map fun (k : Nat) => (1 : Int) + (k : Int)) (by simp)
      have l3 : 2 ^ p.length ≤ 2 ^ 9 := Nat.pow_le_pow_right (by decide) (by omega)
      have e := oLc_mapT (fi := iS (eV 1)) (tgt := gN 3) (fe := eBin dAdd (eBw 3) (eTup (lC (eV 2) lN))) (vs := [3]) (w := w') (w1 := w') (ρ := [some (.v (nD L)), some (.v (.list ((evB (p.map fun (k : Nat) => (1 : Int) + (k : Int))).map tR))), some (.v (.int (1 + (k : Int)))), none])
        (xs := evB (p.map fun (k : Nat) => (1 : Int) + (k : Int))) tR tR (fun row => row ++ [(1 : Int) + (k : Int)]) (by simp) (by rw [big]; omega) fun row hr => ⟨_, rfl, by
          have := l2 row hr
          simp [tR, dAdd]
          rw [if_pos (by rw [big]; omega)]
          simp
          rw [if_pos (by rw [big]; omega)]
          rfl⟩
      refine ⟨_, [some (.v (nD L)), some (.v (.list ((evB ((p ++ [k]).map fun (k : Nat) => (1 : Int) + (k : Int))).map tR))), some (.v (.int (1 + (k : Int)))), none], w', rfl, .inl ?_, rfl, _, rfl⟩
      simp only [u_sAsg, u_eBin, u_eBw, List.set_cons_succ, List.set_cons_zero, List.getElem?_cons_succ, List.getElem?_cons_zero, bind_ok, u_eFz, e, dAdd, List.length_map]
      rw [if_pos (by rw [big]; omega)]
      simp [evB_snoc])
  rw [List.nil_append] at e
  have hr : iR2 (eC (.int 1)) (eBw 0) [some (.v (nD L)), some (.v (.list ((evB []).map tR))), none, none] w2 = .ok ((List.range (L - 1)).map fun (k : Nat) => PyData.int (1 + (k : Int))) w2 := by
    rw [iR2_ok (i := 1) (j := (L : Int)) (w1 := w2) (w2 := w2) rfl rfl (by omega) (by omega) (by omega) (by omega)]
    congr 3
    omega
  obtain ⟨l1, l2⟩ := evB_ok _ ((List.range (L - 1)).map fun (k : Nat) => (1 : Int) + (k : Int)) rfl
  rw [List.length_map, List.length_range] at l1 l2
  have l3 : 2 ^ (L - 1) ≤ 2 ^ 9 := Nat.pow_le_pow_right (by decide) (by omega)
  have e2 := oLc_mapT (fi := iS (eV 1)) (tgt := gN 3) (fe := eBin dAdd (eBin dAdd (eTup (lC (eC (.int 0)) lN)) (eBw 3)) (eTup (lC (eV 0) lN))) (vs := [3]) (w := w2) (w1 := w2) (ρ := [some (.v (nD L)), some (.v (.list ((evB ((List.range (L - 1)).map fun (k : Nat) => (1 : Int) + (k : Int))).map tR))), a, none])
    (xs := evB ((List.range (L - 1)).map fun (k : Nat) => (1 : Int) + (k : Int))) tR tR (fun row => [0] ++ row ++ [(L : Int)]) (by simp) (by rw [big]; omega) fun row hr => ⟨_, rfl, by
      have := l2 row hr
      have b1 : 1 ≤ sizeLine := by rw [big]; omega
      have b2 : 1 + row.length ≤ sizeLine := by rw [big]; omega
      have b3 : 1 + row.length + 1 ≤ sizeLine := by rw [big]; omega
      have b4 : row.length + 1 ≤ sizeLine := by rw [big]; omega
      have b5 : row.length + 1 + 1 ≤ sizeLine := by rw [big]; omega
      simp [tR, dAdd, b1, b2, b3, b4, b5, nD]⟩
  have hs : sAsg (eFz (oLst (lC (eTup lN) lN))) (gN 1) (ent 1 4 [.v (nD L)]) w2 = .nx [some (.v (nD L)), some (.v (.list ((evB []).map tR))), none, none] w2 := by
    simp [big]
    rfl
  rw [u_sSeq, hs, seqK_nx, u_sSeq, u_sFor, hr, bindS_ok, e, seqK_nx, u_sRet, u_eFz, e2, bind_ok, bindS_ok]
  rfl
end K98

set_option Elab.async false
set_option linter.all false
set_option maxRecDepth 100000
set_option maxHeartbeats 4000000
namespace K98
open PySem PySem.Spec L2 DL DG PyProof.Rows PySem.W DM
theorem fmod_lt (z b : Int) (h : 0 < b) : 0 ≤ Int.fmod z b ∧ Int.fmod z b < b := ⟨Int.fmod_nonneg_of_pos z h, Int.fmod_lt_of_pos z h⟩
theorem dMod_int (i j : Int) (h : j ≠ 0) : dMod (.int i) (.int j) = some (.int (Int.fmod i j)) := by
  show (if decide (j ≠ 0) = true then some (PyData.int (Int.fmod i j)) else none) = _
  rw [if_pos (decide_eq_true h)]
theorem dFdiv_int (i j : Int) (h : 0 < j) (h2 : j < 1073741824) : dFdiv (.int i) (.int j) = some (.int (Int.fdiv i j)) := by
  show (if divOk i j = true then some (PyData.int (Int.fdiv i j)) else none) = _
  rw [if_pos]
  unfold divOk
  have a : decide (j ≠ 0) = true := decide_eq_true (by omega)
  have b : decide (j.natAbs < 1073741824) = true := decide_eq_true (by omega)
  rw [a, b]
  rfl
theorem dMul_int (i j : Int) (h : 0 ≤ j) (h2 : j < 1073741824) : dMul (.int i) (.int j) = some (.int (i * j)) := by
  show (if mulOk i j = true then some (PyData.int (i * j)) else none) = _
  rw [if_pos]
  unfold mulOk
  have b : decide (j.natAbs < 18446744073709551616) = true := decide_eq_true (by omega)
  rw [b]
  simp
theorem dPow_18 : dPow (.int 10) (.int 18) = some (.int (10 ^ 18)) := by
  show (if powOk 10 18 = true then some (PyData.int ((10 : Int) ^ (18 : Int).toNat)) else none) = _
  rw [if_pos (by simp [powOk])]
  rfl
theorem s_take (ns : List Int) (b : Int) (hb : 0 < b) : ∃ (z : Int) (ns' : List Int), 0 ≤ z ∧ z < b ∧ m__law_take [.dr, .v (.int b)] (ns.map .int) = .ok (.int z) (ns'.map .int) := by
  unfold m__law_take
  rw [fnD_eq]
  unfold f__law_take
  rcases List.eq_nil_or_concat ns with rfl | ⟨p, z, rfl⟩
  · exact ⟨0, [], Int.le_refl _, hb, by simp [eDrLen, dEq_int]⟩
  · obtain ⟨h1, h2⟩ := fmod_lt z b hb
    refine ⟨Int.fmod z b, p, h1, h2, ?_⟩
    have hl : ((p ++ [z]).map PyData.int).length - 1 = p.length := by simp
    have hg : ((p ++ [z]).map PyData.int)[p.length]? = some (PyData.int z) := by simp
    have hd : ((p ++ [z]).map PyData.int).dropLast = p.map PyData.int := by simp
    have hn : ((p.length : Int) + 1 = 0) = False := by simp; omega
    rw [show p.concat z = p ++ [z] by simp]
    simp [eDrLen, eDrPop, dEq_int, hn, dMod_int z b (by omega)]
def fnRO : RS → R (List D)
  | .ro ds w => .ok ds w
  | .exc c w => .exc c w
  | _ => .bad
theorem fnO_eq (n N : Nat) (body : Sf) (ss : List Sl) (w : Wd) : fnO n N body ss w = fnRO (body (ent n N ss) w) := by
  unfold fnO
  cases body (ent n N ss) w <;> rfl
@[simp] theorem fnRO_ro {d : List D} {w : Wd} : fnRO (.ro d w) = .ok d w := Eq.trans rfl rfl
abbrev dIn60 : Sf := sIf (tCm dGt (eBw 5) (eC (.int 0))) (sSeq (sApp 1 (eBin dMod (eCall gInt (lC (eBw 5) lN)) (eC (.int 997)))) (sAsg (eBin dFdiv (eBw 5) (eC (.int 997))) (gN 5))) sNil
theorem app_ok {a c d e f g : Option Sl} {zs : List Int} {fa : Ef} {z : Int} {w : Wd} (h : fa [a, some (.ol (zs.map .int)), c, d, e, f, g] w = .ok (.int z) w) (hl : zs.length ≤ 100000) :
    sApp 1 fa [a, some (.ol (zs.map .int)), c, d, e, f, g] w = .nx [a, some (.ol ((zs ++ [z]).map .int)), c, d, e, f, g] w := by
  unfold sApp
  simp only [List.getElem?_cons_succ, List.getElem?_cons_zero, h, bindS_ok, List.length_map]
  rw [if_pos (by rw [big]; omega)]
  simp
theorem draws_in (a c d e g : Option Sl) (zs : List Int) (n : Int) (w : Wd) (hl : zs.length ≤ 50000) : ∃ (zs' : List Int) (n' : Int) (e' : Option Sl), zs'.length ≤ zs.length + 60 ∧ forL (gN 4) dIn60 ((List.range 60).map nD) [a, some (.ol (zs.map .int)), c, d, e, some (.v (.int n)), g] w = .nx [a, some (.ol (zs'.map .int)), c, d, e', some (.v (.int n')), g] w := by
  obtain ⟨ρ2, w2, h, ⟨rfl, zs', n', e', hz, rfl⟩⟩ := forL_inv nD (tgt := gN 4) (body := dIn60) (fun ps ρ w' => w' = w ∧ ∃ (zs' : List Int) (n' : Int) (e' : Option Sl), zs'.length ≤ zs.length + ps.length ∧ ρ = [a, some (.ol (zs'.map .int)), c, d, e', some (.v (.int n')), g]) (List.range 60) [] [a, some (.ol (zs.map .int)), c, d, e, some (.v (.int n)), g] w
    ⟨rfl, zs, n, e, Nat.le_refl _, rfl⟩ (by
      rintro p x q ρ w' hx ⟨rfl, zs', n', e', hz, rfl⟩
      have hp : p.length < 60 := by
        have := congrArg List.length hx
        simp at this
        omega
      by_cases hn : 0 < n'
      · refine ⟨_, [a, some (.ol ((zs' ++ [Int.fmod n' 997]).map .int)), c, d, some (.v (nD x)), some (.v (.int (Int.fdiv n' 997))), g], w', rfl, .inl ?_, rfl, _, _, _, by simp; omega, rfl⟩
        have := app_ok (a := a) (c := c) (d := d) (e := some (.v (nD x))) (f := some (.v (.int n'))) (g := g) (zs := zs') (fa := eBin dMod (eCall gInt (lC (eBw 5) lN)) (eC (.int 997))) (z := Int.fmod n' 997) (w := w') (by simp [dMod_int]) (by omega)
        simp [hn, dFdiv_int, this]
      · refine ⟨_, [a, some (.ol (zs'.map .int)), c, d, some (.v (nD x)), some (.v (.int n')), g], w', rfl, .inl ?_, rfl, _, _, _, by simp; omega, rfl⟩
        simp [hn])
  exact ⟨zs', n', e', by simpa using hz, h⟩
abbrev dCell : Sf := (sSeq (sAsg (eCall gAbs (lC (eBw 2) lN)) (gN 5))
  (sSeq (sIf (tCm dLt (eBw 5) (eBin dPow (eC (.int 10)) (eC (.int 18)))) (sSeq (sAsg (eBin dMod (eCall gInt (lC (eBin dAdd (eBin dMul (eBw 5) (eC (.int 48271))) (eC (.int 11))) lN)) (eC (.int 2147483647))) (gN 6))
  (sSeq (sApp 1 (eBin dMod (eCall gInt (lC (eBin dAdd (eBin dMul (eBw 6) (eC (.int 69621))) (eBw 5)) lN)) (eC (.int 2147483629))))
  (sSeq (sApp 1 (eBin dMod (eCall gInt (lC (eBin dAdd (eBw 6) (eBin dFdiv (eBw 5) (eC (.int 7)))) lN)) (eC (.int 1000003))))
  (sAsg (eC (.int 0)) (gN 5))))) sNil)
  (sFor (iR1 (eC (.int 60))) (gN 4) dIn60)))
theorem r60 {ρ : Ev} {w : Wd} : iR1 (eC (.int 60)) ρ w = .ok ((List.range 60).map nD) w := by
  rw [iR1_ok (j := 60) (w1 := w) rfl (by omega) (by omega)]
  rfl
theorem draws_cell (a d e f g : Option Sl) (zs : List Int) (x : Int) (w : Wd) (hl : zs.length ≤ 40000) : ∃ (zs' : List Int) (c' e' f' g' : Option Sl), zs'.length ≤ zs.length + 62 ∧ dCell [a, some (.ol (zs.map .int)), some (.v (.int x)), d, e, f, g] w = .nx [a, some (.ol (zs'.map .int)), c', d, e', f', g'] w := by
  let n : Int := if x < 0 then -x else x
  by_cases hn : n < 10 ^ 18
  · let u : Int := Int.fmod (n * 48271 + 11) 2147483647
    have e1 := app_ok (a := a) (c := some (.v (.int x))) (d := d) (e := e) (f := some (.v (.int n))) (g := some (.v (.int u))) (zs := zs) (fa := eBin dMod (eCall gInt (lC (eBin dAdd (eBin dMul (eBw 6) (eC (.int 69621))) (eBw 5)) lN)) (eC (.int 2147483629))) (z := Int.fmod (u * 69621 + n) 2147483629) (w := w)
      (by simp [dMod_int, dMul_int]) (by omega)
    have e2 := app_ok (a := a) (c := some (.v (.int x))) (d := d) (e := e) (f := some (.v (.int n))) (g := some (.v (.int u))) (zs := zs ++ [Int.fmod (u * 69621 + n) 2147483629]) (fa := eBin dMod (eCall gInt (lC (eBin dAdd (eBw 6) (eBin dFdiv (eBw 5) (eC (.int 7)))) lN)) (eC (.int 1000003))) (z := Int.fmod (u + Int.fdiv n 7) 1000003) (w := w)
      (by simp [dMod_int, dFdiv_int]) (by simp; omega)
    obtain ⟨zs', n', e', h1, h2⟩ := draws_in a (some (.v (.int x))) d e (some (.v (.int u))) (zs ++ [Int.fmod (u * 69621 + n) 2147483629] ++ [Int.fmod (u + Int.fdiv n 7) 1000003]) 0 w (by simp; omega)
    refine ⟨zs', some (.v (.int x)), e', some (.v (.int n')), some (.v (.int u)), by simp at h1; omega, ?_⟩
    have hu : Int.fmod ((if x < 0 then -x else x) * 48271 + 11) 2147483647 = u := rfl
    have hn' : (if x < 0 then -x else x) = n := rfl
    have t : tCm dLt (eBw 5) (eBin dPow (eC (.int 10)) (eC (.int 18))) [a, some (.ol (zs.map .int)), some (.v (.int x)), d, e, some (.v (.int n)), g] w = .ok true w := by simp only [u_tCm, u_eBw, List.getElem?_cons_succ, List.getElem?_cons_zero, bind_ok, u_eBin, u_eC, dPow_18, of_some, u_ltI, Option.bind_some, u_bOfb, decide_eq_true hn]
    have s1 : sAsg (eCall gAbs (lC (eBw 2) lN)) (gN 5) [a, some (.ol (zs.map .int)), some (.v (.int x)), d, e, f, g] w = .nx [a, some (.ol (zs.map .int)), some (.v (.int x)), d, e, some (.v (.int n)), g] w := by simp [hn']
    have s2 : sAsg (eBin dMod (eCall gInt (lC (eBin dAdd (eBin dMul (eBw 5) (eC (.int 48271))) (eC (.int 11))) lN)) (eC (.int 2147483647))) (gN 6) [a, some (.ol (zs.map .int)), some (.v (.int x)), d, e, some (.v (.int n)), g] w = .nx [a, some (.ol (zs.map .int)), some (.v (.int x)), d, e, some (.v (.int n)), some (.v (.int u))] w := by simp [dMod_int, dMul_int, ← hu, hn']
    show sSeq _ _ _ _ = _
    rw [u_sSeq, s1, seqK_nx, u_sSeq, u_sIf, t, bindS_ok, if_pos rfl, u_sSeq, s2, seqK_nx, u_sSeq, e1, seqK_nx, u_sSeq, e2, seqK_nx, u_sAsg, u_eC, bindS_ok]
    simp only [u_gN, List.length_cons, List.length_nil, Nat.reduceAdd, Nat.reduceLT, if_true, ofO_some, List.set_cons_succ, List.set_cons_zero, seqK_nx]
    rw [u_sFor, r60, bindS_ok, h2]
  · obtain ⟨zs', n', e', h1, h2⟩ := draws_in a (some (.v (.int x))) d e g zs n w (by omega)
    refine ⟨zs', some (.v (.int x)), e', some (.v (.int n')), g, by omega, ?_⟩
    have hn' : (if x < 0 then -x else x) = n := rfl
    have t : tCm dLt (eBw 5) (eBin dPow (eC (.int 10)) (eC (.int 18))) [a, some (.ol (zs.map .int)), some (.v (.int x)), d, e, some (.v (.int n)), g] w = .ok false w := by simp only [u_tCm, u_eBw, List.getElem?_cons_succ, List.getElem?_cons_zero, bind_ok, u_eBin, u_eC, dPow_18, of_some, u_ltI, Option.bind_some, u_bOfb, decide_eq_false hn]
    have s1 : sAsg (eCall gAbs (lC (eBw 2) lN)) (gN 5) [a, some (.ol (zs.map .int)), some (.v (.int x)), d, e, f, g] w = .nx [a, some (.ol (zs.map .int)), some (.v (.int x)), d, e, some (.v (.int n)), g] w := by simp [hn']
    show sSeq _ _ _ _ = _
    rw [u_sSeq, s1, seqK_nx, u_sSeq, u_sIf, t, bindS_ok, if_neg (by decide), u_sNil, seqK_nx, u_sFor, r60, bindS_ok, h2]
theorem draws_cells (a d e f g : Option Sl) (c : Option Sl) (xs : List Int) (hx : xs.length ≤ 100) (w : Wd) : ∃ (zs' : List Int) (c' e' f' g' : Option Sl), zs'.length ≤ 6200 ∧ forL (gN 2) dCell (xs.map PyData.int) [a, some (.ol []), c, d, e, f, g] w = .nx [a, some (.ol (zs'.map .int)), c', d, e', f', g'] w := by
  obtain ⟨ρ2, w2, h, ⟨rfl, zs', c', e', f', g', hz, rfl⟩⟩ := forL_inv PyData.int (tgt := gN 2) (body := dCell) (fun ps ρ w' => w' = w ∧ ∃ (zs' : List Int) (c' e' f' g' : Option Sl), zs'.length ≤ ps.length * 62 ∧ ρ = [a, some (.ol (zs'.map .int)), c', d, e', f', g']) xs [] [a, some (.ol []), c, d, e, f, g] w
    ⟨rfl, [], c, e, f, g, Nat.le_refl _, rfl⟩ (by
      rintro p x q ρ w' hx2 ⟨rfl, zs', c', e', f', g', hz, rfl⟩
      have hp : p.length < 100 := by
        have := congrArg List.length hx2
        simp at this
        omega
      obtain ⟨zs2, c2, e2, f2, g2, h1, h2⟩ := draws_cell a d e' f' g' zs' x w' (by omega)
      exact ⟨_, _, w', rfl, .inl h2, rfl, zs2, c2, e2, f2, g2, by simp; omega, rfl⟩)
  refine ⟨zs', c', e', f', g', ?_, h⟩
  simp at hz
  omega
abbrev dSeed : Sf := (sSeq (sAsg (eBin dMod (eCall gInt (lC (eBin dAdd (eBin dMul (eBw 3) (eC (.int 48271))) (eC (.int 69621))) lN)) (eC (.int 2147483647))) (gN 3))
  (sApp 1 (eBin dFdiv (eBw 3) (eC (.int 5)))))
theorem draws_seed (a c e f g : Option Sl) (zs : List Int) (n : Int) (hz : zs.length ≤ 10000) (w : Wd) : ∃ (zs' : List Int) (d' e' : Option Sl), zs'.length ≤ zs.length + 900 ∧ forL (gN 4) dSeed ((List.range 900).map nD) [a, some (.ol (zs.map .int)), c, some (.v (.int n)), e, f, g] w = .nx [a, some (.ol (zs'.map .int)), c, d', e', f, g] w := by
  obtain ⟨ρ2, w2, h, ⟨rfl, zs', n', e', hz, rfl⟩⟩ := forL_inv nD (tgt := gN 4) (body := dSeed) (fun ps ρ w' => w' = w ∧ ∃ (zs' : List Int) (n' : Int) (e' : Option Sl), zs'.length ≤ zs.length + ps.length ∧ ρ = [a, some (.ol (zs'.map .int)), c, some (.v (.int n')), e', f, g]) (List.range 900) [] [a, some (.ol (zs.map .int)), c, some (.v (.int n)), e, f, g] w
    ⟨rfl, zs, n, e, Nat.le_refl _, rfl⟩ (by
      rintro p x q ρ w' hx2 ⟨rfl, zs', n', e', hz, rfl⟩
      have hp : p.length < 900 := by
        have := congrArg List.length hx2
        simp at this
        omega
      let u : Int := Int.fmod (n' * 48271 + 69621) 2147483647
      have e1 := app_ok (a := a) (c := c) (d := some (.v (.int u))) (e := some (.v (nD x))) (f := f) (g := g) (zs := zs') (fa := eBin dFdiv (eBw 3) (eC (.int 5))) (z := Int.fdiv u 5) (w := w') (by simp [dFdiv_int]) (by omega)
      refine ⟨_, [a, some (.ol ((zs' ++ [Int.fdiv u 5]).map .int)), c, some (.v (.int u)), some (.v (nD x)), f, g], w', rfl, .inl ?_, rfl, _, _, _, by simp; omega, rfl⟩
      have s2 : sAsg (eBin dMod (eCall gInt (lC (eBin dAdd (eBin dMul (eBw 3) (eC (.int 48271))) (eC (.int 69621))) lN)) (eC (.int 2147483647))) (gN 3) [a, some (.ol (zs'.map .int)), c, some (.v (.int n')), some (.v (nD x)), f, g] w' = .nx [a, some (.ol (zs'.map .int)), c, some (.v (.int u)), some (.v (nD x)), f, g] w' := by simp [dMod_int, dMul_int]; rfl
      simp only [List.set_cons_succ, List.set_cons_zero]
      show sSeq _ _ _ _ = _
      rw [u_sSeq, s2, seqK_nx, e1])
  exact ⟨zs', _, e', by simpa using hz, h⟩
theorem r900 {ρ : Ev} {w : Wd} : iR1 (eC (.int 900)) ρ w = .ok ((List.range 900).map nD) w := by
  rw [iR1_ok (j := 900) (w1 := w) rfl (by omega) (by omega)]
  rfl
theorem s_draws (ns : List Int) (hn : ns.length ≤ 63) : ∃ zs : List Int, m__law_draws [.sc ns] [] = .ok (zs.map .int) [] := by
  unfold m__law_draws
  rw [fnO_eq]
  unfold f__law_draws
  obtain ⟨zs1, c1, e1, f1, g1, l1, h1⟩ := draws_cells (some (.sc ns)) none none none none none ns (by omega) []
  have s0 : sOwn (oLst lN) 1 (ent 1 7 [.sc ns]) [] = .nx [some (.sc ns), some (.ol []), none, none, none, none, none] [] := by simp
  have s1 : iSc 0 [some (.sc ns), some (.ol []), none, none, none, none, none] [] = .ok (ns.map .int) [] := rfl
  rw [u_sSeq, s0, seqK_nx, u_sSeq, u_sFor, s1, bindS_ok, h1, seqK_nx, u_sSeq]
  have s2 : sAsg (eC (.int 1)) (gN 3) [some (.sc ns), some (.ol (zs1.map .int)), c1, none, e1, f1, g1] [] = .nx [some (.sc ns), some (.ol (zs1.map .int)), c1, some (.v (.int 1)), e1, f1, g1] [] := by simp
  rw [s2, seqK_nx, u_sSeq]
  obtain ⟨n3, h3⟩ : ∃ n : Int, sIf (tCm dGt (eDrLen 0) (eC (.int 0))) (sAsg (eBin dAdd (eC (.int 1)) (eCall gAbs (lC (eScIx 0 (eC (.int 0))) lN))) (gN 3)) sNil [some (.sc ns), some (.ol (zs1.map .int)), c1, some (.v (.int 1)), e1, f1, g1] [] = .nx [some (.sc ns), some (.ol (zs1.map .int)), c1, some (.v (.int n)), e1, f1, g1] [] := by
    cases ns with
    | nil => exact ⟨1, by simp [eDrLen]⟩
    | cons x xs =>
      have hx : L2.atI (x :: xs) 0 = some x := atI_nat (j := 0) rfl
      have hp : (0 : Int) < (xs.length : Int) + 1 := by omega
      exact ⟨1 + (if x < 0 then -x else x), by simp [eDrLen, eScIx, hx, hp]⟩
  rw [h3, seqK_nx]
  obtain ⟨zs4, d4, e4, l4, h4⟩ := draws_seed (some (.sc ns)) c1 e1 f1 g1 zs1 n3 (by omega) []
  rw [u_sSeq, u_sFor, r900, bindS_ok, h4, seqK_nx]
  refine ⟨zs4.reverse, ?_⟩
  simp [oRev]
end K98

set_option Elab.async false
set_option linter.all false
set_option maxRecDepth 100000
set_option maxHeartbeats 4000000
namespace K98
open PySem PySem.Spec L2 DL DG PyProof.Rows PySem.W DM
def back (L : Nat) (row : List Int) : List Int := row.reverse.map fun x => (L : Int) - x
def rowC (L : Nat) (row : List Int) : Bool := (wholeP L row == wholeB L row) && (singleP row == singleB row) && (wholeB L (back L row) == wholeP L row) && (singleB (back L row) == singleP row) && marksB L row && decide ((back L row).getLast? = some (L : Int)) &&
  !((wholeP L row && decide (row.length * (row.length - 1) / 2 < L)) || (singleP row && decide (L < row.length * (row.length - 1) / 2)))
theorem rowC_ok : ((List.range 10).all fun L => (every (L + 1)).all (rowC (L + 1))) = true := by decide +kernel
end K98

set_option Elab.async false
set_option linter.all false
set_option maxRecDepth 100000
set_option maxHeartbeats 4000000
namespace K98
open PySem PySem.Spec L2 DL DG PyProof.Rows PySem.W DM
theorem seq_step {f g : Sf} {ρ ρ1 : Ev} {w w1 : Wd} {r : RS} (h : f ρ w = .nx ρ1 w1) (h2 : g ρ1 w1 = r) : sSeq f g ρ w = r := by rw [u_sSeq, h, seqK_nx, h2]
theorem rowC_at {L : Nat} (h1 : 1 ≤ L) (h2 : L ≤ 10) {row : List Int} (hr : row ∈ every L) : rowC L row = true := by
  have h := List.all_eq_true.mp rowC_ok (L - 1) (List.mem_range.mpr (by omega))
  rw [show L - 1 + 1 = L by omega] at h
  exact List.all_eq_true.mp h row hr
structure RowF (L : Nat) (row : List Int) : Prop where
  len : row.length ≤ 12
  last : row.getLast? = some (L : Int)
  w : wholeB L row = wholeP L row
  s : singleB row = singleP row
  bw : wholeB L (back L row) = wholeP L row
  bs : singleB (back L row) = singleP row
  m : marksB L row = true
  bl : (back L row).getLast? = some (L : Int)
  pr : ((wholeP L row && decide (row.length * (row.length - 1) / 2 < L)) || (singleP row && decide (L < row.length * (row.length - 1) / 2))) = false
theorem rowF {L : Nat} (h1 : 1 ≤ L) (h2 : L ≤ 10) {row : List Int} (hr : row ∈ every L) : RowF L row := by
  have h := rowC_at h1 h2 hr
  obtain ⟨a, b⟩ := every_ok hr h2
  unfold rowC at h
  simp only [Bool.and_eq_true, beq_iff_eq, decide_eq_true_eq, Bool.not_eq_true'] at h
  obtain ⟨⟨⟨⟨⟨⟨q1, q2⟩, q3⟩, q4⟩, q5⟩, q6⟩, q7⟩ := h
  exact ⟨a, b, q1.symm, q2.symm, q3, q4, q5, q6, q7⟩
abbrev Ev1 (ns : List Int) (L : Nat) (tb : D) (a5 b c d e f : Option Sl) : Ev := [some (.sc ns), some .dr, some (.v (nD L)), some (.v (.list ((every L).map tR))), some (.v tb), a5, none, none, none, none, none, none, none, b, c, d, e, f, none, none]
abbrev body : Sf := (sSeq (sAsg (eBin dIx (eBw 3) (eCallF 2 m__law_take (aSl 1 (aCons (eCall gLen (lC (eBw 3) lN)) aNil)))) (gN 13))
  (sSeq (sAsg (eCallF 1 m__law_judged (aCons (eV 13) aNil)) (gT 2 (gsC (gN 14) (gsC (gN 15) gsN))))
  (sSeq (sAsg (eCall gTuple (lC (eFz (oLc (iS (eRev (eBw 13))) (gN 19) oYes (eBin dSub (eBw 2) (eBw 19)) [19])) lN)) (gN 16))
  (sSeq (sIf (tOo (tCm dNis (eCallF 2 m_are_marks (aCons (eV 2) (aCons (eV 13) aNil))) (eC (.bool true))) (tNo (tstV (eCallF 2 (m__law_same 4) (aCons (eFz (oLst (lC (eCallF 1 m_are_whole (aCons (eV 13) aNil)) (lC (eCallF 1 m_are_single (aCons (eV 13) aNil)) (lC (eCallF 1 m_are_whole (aCons (eV 16) aNil)) (lC (eCallF 1 m_are_single (aCons (eV 16) aNil)) lN)))))) (aCons (eFz (oLst (lC (eV 14) (lC (eV 15) (lC (eV 14) (lC (eV 15) lN)))))) aNil)))))) (sRet (eC (.bool false))) sNil)
  (sSeq (sAsg (eBin dFdiv (eBin dMul (eCall gLen (lC (eBw 13) lN)) (eBin dSub (eCall gLen (lC (eBw 13) lN)) (eC (.int 1)))) (eC (.int 2))) (gN 17))
  (sIf (tOo (tAn (tstV (eBw 14)) (tCm dLt (eBw 17) (eBw 2))) (tAn (tstV (eBw 15)) (tCm dGt (eBw 17) (eBw 2)))) (sRet (eC (.bool false))) sNil))))))
theorem s_body (ns : List Int) (L : Nat) (h1 : 1 ≤ L) (h2 : L ≤ 10) (tb : D) (a5 b c d e f : Option Sl) (zs : List Int) : ∃ (zs' : List Int) (row : List Int) (c' d' e' f' : Option Sl), row ∈ every L ∧ body (Ev1 ns L tb a5 b c d e f) (zs.map .int) = .nx (Ev1 ns L tb a5 (some (.v (tR row))) c' d' e' f') (zs'.map .int) := by
  have hl : (every L).length = 2 ^ (L - 1) := every_len h2
  have hp : 0 < (every L).length := by rw [hl]; exact Nat.two_pow_pos _
  obtain ⟨z, zs', z0, z1, ht⟩ := s_take zs ((every L).length : Int) (by omega)
  obtain ⟨n, rfl⟩ : ∃ n : Nat, z = (n : Int) := ⟨z.toNat, by omega⟩
  have hn : n < (every L).length := by omega
  have hg : (every L)[n]? = some ((every L)[n]) := List.getElem?_eq_getElem hn
  have hr : (every L)[n] ∈ every L := List.getElem_mem hn
  generalize (every L)[n] = row at hg hr
  have F := rowF h1 h2 hr
  have hj := s_judged row L (by have := F.len; omega) (by omega) F.last (zs'.map .int)
  refine ⟨zs', row, some (.v (.bool (wholeP L row))), some (.v (.bool (singleP row))), some (.v (tR (back L row))), some (.v (.int ((row.length * (row.length - 1) / 2 : Nat) : Int))), hr, ?_⟩
  refine seq_step (ρ1 := Ev1 ns L tb a5 (some (.v (tR row))) c d e f) (w1 := zs'.map .int) ?_ ?_
  · simp [ht, atI_map tR hg]
  refine seq_step (ρ1 := Ev1 ns L tb a5 (some (.v (tR row))) (some (.v (.bool (wholeP L row)))) (some (.v (.bool (singleP row)))) e f) (w1 := zs'.map .int) ?_ ?_
  · simp [hj]
  refine seq_step (ρ1 := Ev1 ns L tb a5 (some (.v (tR row))) (some (.v (.bool (wholeP L row)))) (some (.v (.bool (singleP row)))) (some (.v (tR (back L row)))) f) (w1 := zs'.map .int) ?_ ?_
  · have e := oLc_mapT (fi := iS (eRev (eBw 13))) (tgt := gN 19) (fe := eBin dSub (eBw 2) (eBw 19)) (vs := [19]) (w := zs'.map .int) (w1 := zs'.map .int) (ρ := Ev1 ns L tb a5 (some (.v (tR row))) (some (.v (.bool (wholeP L row)))) (some (.v (.bool (singleP row)))) e f)
      (xs := row.reverse) PyData.int PyData.int (fun x => (L : Int) - x) (by simp [tR, dRev]) (by rw [big, List.length_reverse]; have := F.len; omega) fun x hx => ⟨_, rfl, by simp [nD]⟩
    rw [u_sAsg, u_eCall, u_lC, u_eFz, e]
    simp [gTuple, tR, back]
  refine seq_step (ρ1 := Ev1 ns L tb a5 (some (.v (tR row))) (some (.v (.bool (wholeP L row)))) (some (.v (.bool (singleP row)))) (some (.v (tR (back L row)))) f) (w1 := zs'.map .int) ?_ ?_
  · have hm := s_marks L row (by have := F.len; omega) (zs'.map .int)
    have k1 := s_are_whole row L (by have := F.len; omega) (by omega) F.last (zs'.map .int)
    have k2 := s_are_single row (by have := F.len; omega) (zs'.map .int)
    have k3 := s_are_whole (back L row) L (by have := F.len; simp [back]; omega) (by omega) F.bl (zs'.map .int)
    have k4 := s_are_single (back L row) (by have := F.len; simp [back]; omega) (zs'.map .int)
    rw [F.m] at hm
    rw [F.w] at k1
    rw [F.s] at k2
    rw [F.bw] at k3
    rw [F.bs] at k4
    have hs := s_same' (.list [.bool (wholeP L row), .bool (singleP row), .bool (wholeP L row), .bool (singleP row)]) (zs'.map .int) rfl rfl (by simp [PyData.depth, PyData.depthAll])
    have four : 4 ≤ sizeLine := by rw [big]; omega
    simp [hm, k1, k2, k3, k4, four, hs]
  refine seq_step (ρ1 := Ev1 ns L tb a5 (some (.v (tR row))) (some (.v (.bool (wholeP L row)))) (some (.v (.bool (singleP row)))) (some (.v (tR (back L row)))) (some (.v (.int ((row.length * (row.length - 1) / 2 : Nat) : Int))))) (w1 := zs'.map .int) ?_ ?_
  · have hlen := F.len
    have hne : 1 ≤ row.length := by
      cases row with
      | nil => cases F.last
      | cons _ _ => simp
    have e1 : dMul (.int (row.length : Int)) (.int ((row.length : Int) - 1)) = some (.int ((row.length * (row.length - 1) : Nat) : Int)) := by
      rw [dMul_int _ _ (by omega) (by omega)]
      congr 2
      rw [Int.natCast_mul, Int.natCast_sub hne]
      rfl
    have e2 : dFdiv (.int ((row.length * (row.length - 1) : Nat) : Int)) (.int 2) = some (.int ((row.length * (row.length - 1) / 2 : Nat) : Int)) := by
      rw [dFdiv_int _ _ (by omega) (by omega)]
      congr 2
      rw [Int.fdiv_eq_ediv_of_nonneg _ (by omega)]
      exact (Int.natCast_ediv _ _).symm
    simp only [u_sAsg, u_eBin, u_eCall, u_lC, u_lN, u_eBw, List.getElem?_cons_succ, List.getElem?_cons_zero, bind_ok, tR, u_lenT, of_some, List.length_map, u_eC, u_subI, e1, e2, bindS_ok, u_gN, List.length_cons, List.length_nil, Nat.reduceAdd, Nat.reduceLT, if_true, ofO_some, List.set_cons_succ, List.set_cons_zero]
  · have hp := F.pr
    rw [Bool.or_eq_false_iff] at hp
    obtain ⟨p1, p2⟩ := hp
    generalize row.length * (row.length - 1) / 2 = Pn at p1 p2 ⊢
    have q1 : (decide ((Pn : Int) < (L : Int))) = decide (Pn < L) := decide_eq_decide.mpr (by omega)
    have q2 : (decide ((L : Int) < (Pn : Int))) = decide (L < Pn) := decide_eq_decide.mpr (by omega)
    have t : (tOo (tAn (tstV (eBw 14)) (tCm dLt (eBw 17) (eBw 2))) (tAn (tstV (eBw 15)) (tCm dGt (eBw 17) (eBw 2)))) (Ev1 ns L tb a5 (some (.v (tR row))) (some (.v (.bool (wholeP L row)))) (some (.v (.bool (singleP row)))) (some (.v (tR (back L row)))) (some (.v (.int (Pn : Int))))) (zs'.map .int) = .ok false (zs'.map .int) := by
      simp only [u_tOo, u_tAn, u_tstV, u_tCm, u_eBw, List.getElem?_cons_succ, List.getElem?_cons_zero, bind_ok, u_truB, of_some, nD, u_ltI, u_gtI, Option.bind_some, u_bOfb, q1, q2]
      cases hw : wholeP L row <;> cases hs : singleP row <;> rw [hw] at p1 <;> rw [hs] at p2 <;> simp only [Bool.true_and, Bool.false_and] at p1 p2 <;> simp only [p1, p2, if_true, bind_ok, Bool.false_eq_true, if_false]
    rw [u_sIf, t]
    simp
end K98

set_option Elab.async false
set_option linter.all false
set_option maxRecDepth 100000
set_option maxHeartbeats 4000000
namespace K98
open PySem PySem.Spec L2 DL DG PyProof.Rows PySem.W DM
theorem lw0 : lwL 0 = [0] := by decide +kernel
theorem lw1 : lwL 1 = [1, 2] := by decide +kernel
theorem lw2 : lwL 2 = [2, 3, 4, 5] := by decide +kernel
theorem lw3 : lwL 3 = [3, 4, 5, 6, 7, 8] := by decide +kernel
theorem lw4 : lwL 4 = [4, 5, 6, 7, 8, 9, 10, 11, 12] := by decide +kernel
theorem ss0 : ssL 0 = [0, 1, 2, 3, 4, 5, 6, 7, 8, 9, 10, 11, 12, 13] := by decide +kernel
theorem ss1 : ssL 1 = [2, 3, 4, 5, 6, 7, 8, 9, 10, 11, 12, 13] := by decide +kernel
theorem ss2 : ssL 2 = [5, 6, 7, 8, 9, 10, 11, 12, 13] := by decide +kernel
theorem ss3 : ssL 3 = [10, 11, 12, 13] := by decide +kernel
end K98

set_option Elab.async false
set_option linter.all false
set_option maxRecDepth 100000
set_option maxHeartbeats 4000000
namespace K98
open PySem PySem.Spec L2 DL DG PyProof.Rows PySem.W DM
def tP (row : List Int) : D := .tuple [nD row.length, tR row]
def ltT (a b : List Int) : Bool := decide (a.length < b.length) || (decide (a.length = b.length) && ltB a b)
def minT (x : List Int) (xs : List (List Int)) : List Int := xs.foldl (fun a y => if ltT y a = true then y else a) x
theorem eqv_tR (a b : List Int) : PyData.eqv (tR a) (tR b) = decide (a = b) := by
  have := Datum.eqv (⟨a⟩ : PySem.W.Tup Int) ⟨b⟩
  rw [show decide (a = b) = decide ((⟨a⟩ : PySem.W.Tup Int) = ⟨b⟩) by simp]
  exact this
theorem ltB_irrefl : ∀ a : List Int, ltB a a = false
  | [] => rfl
  | x :: xs => by simp [ltB, ltB_irrefl xs]
theorem dataLt_tP (a b : List Int) : dataLt (tP a) (tP b) = ltT a b := by
  unfold tP
  rw [dataLt_pair (by simp [nD, alike]) (alike_tR a b), eqv_tR, dataLt_tR]
  unfold nD ltT
  rw [dataLt_int]
  simp only [PyData.eqv, beq_iff_eq, decide_eq_true_eq]
  by_cases h : a.length = b.length
  · by_cases q : a = b
    · subst q; simp [ltB_irrefl]
    · simp [h, q]
  · simp [h]
    exact fun z => absurd (Int.ofNat_inj.mp z) h
theorem minD_tP (x : List Int) (xs : List (List Int)) : minD (tP x) (xs.map tP) = tP (minT x xs) := by
  unfold minD minT
  induction xs generalizing x with
  | nil => rfl
  | cons y ys ih =>
    rw [List.map_cons, List.foldl_cons, List.foldl_cons, dataLt_tP, ← ih]
    cases ltT y x <;> rfl
theorem alike_tP (a b : List Int) : alike (tP a) (tP b) = true := by
  unfold tP
  rw [alike, alikeAll, alikeAll, alike_tR]
  simp [nD, alike, alikeAll]
theorem mm_tP (xs : List (List Int)) : mmOk (xs.map tP) = true := by
  have hp : PyData.plainAll (xs.map tP) = true := by
    induction xs with
    | nil => rfl
    | cons x xs ih => rw [List.map_cons, PyData.plainAll, ih]; unfold tP; simp [PyData.plain, PyData.plainAll, nD, plain_tR]
  have hd : PyData.depthAll (xs.map tP) ≤ 2 := by
    clear hp
    induction xs with
    | nil => exact Nat.zero_le _
    | cons x xs ih => rw [List.map_cons, PyData.depthAll, show (tP x).depth = 2 by unfold tP; simp [PyData.depth, PyData.depthAll, nD, depth_tR]]; omega
  unfold mmOk alikeAllB
  rw [hp]
  simp only [List.all_map, Bool.and_true, Bool.and_eq_true, decide_eq_true_eq, List.all_eq_true]
  exact ⟨⟨fun x _ => List.all_eq_true.mpr fun y _ => alike_tP x y, fun x _ => rfl⟩, by omega⟩
theorem gMin_tP (x : List Int) (xs : List (List Int)) : gMin [.list ((x :: xs).map tP)] = some (tP (minT x xs)) := by
  show (if mmOk ((x :: xs).map tP) = true then some (minD (tP x) (xs.map tP)) else none) = _
  rw [if_pos (mm_tP _), minD_tP]
def tabs (L : Nat) : List (List Int) := (every L).filter (wholeP L)
def tabC (L : Nat) : Bool := match tabs L with
  | [] => false
  | x :: xs => (List.range 5).any fun k => ((List.range k).all fun i => (found L i).isEmpty) && (match found L k with
    | [] => false
    | y :: ys => decide (minT x xs = minR y ys))
def bothL (L : Nat) : List (List Int) := (every L).filter fun row => wholeP L row && singleP row
def lgs (k : Nat) : Nat := [1, 3, 6, 9].getD k 0
def shs (k : Nat) : Nat := [1, 3, 6, 11].getD k 0
def fitL (L k : Nat) : List (List Int) := (every L).filter fun row => decide (row.length = k + 2) && wholeP L row
def sngL (L k : Nat) : List (List Int) := (every L).filter fun row => decide (row.length = k + 2) && singleP row
def fitC (L k : Nat) : Bool := !((!(fitL L k).isEmpty && decide (lgs k < L)) || (!(sngL L k).isEmpty && decide (L < shs k))) && !((decide (L = lgs k) && (fitL L k).isEmpty) || (decide (L = shs k) && (sngL L k).isEmpty))
def wrC (L : Nat) : Bool := !(marksB L [] || marksB L [0] || marksB L [(L : Int)] || marksB L [1, (L : Int)] || marksB L [0, (L : Int) + 1] || marksB L [0, (L : Int), (L : Int)] || marksB L [0, -1, (L : Int)])
theorem lawC : ((List.range 10).all fun L => tabC (L + 1) && ((!(bothL (L + 1)).isEmpty) == decide (((L + 1 : Nat) : Int) ∈ [1, 3, 6])) && ((List.range 4).all (fitC (L + 1))) && wrC (L + 1)) = true := by decide +kernel
theorem law_at {L : Nat} (h1 : 1 ≤ L) (h2 : L ≤ 10) : tabC L = true ∧ (!(bothL L).isEmpty) = decide ((L : Int) ∈ [1, 3, 6]) ∧ (∀ k, k < 4 → fitC L k = true) ∧ wrC L = true := by
  have h := List.all_eq_true.mp lawC (L - 1) (List.mem_range.mpr (by omega))
  rw [show L - 1 + 1 = L by omega] at h
  simp only [Bool.and_eq_true, beq_iff_eq] at h
  obtain ⟨⟨⟨a, b⟩, c⟩, d⟩ := h
  exact ⟨a, b, fun k hk => List.all_eq_true.mp c k (List.mem_range.mpr hk), d⟩
theorem tab_at {L : Nat} (h1 : 1 ≤ L) (h2 : L ≤ 10) : ∃ x xs k0 y ys, tabs L = x :: xs ∧ k0 ≤ 4 ∧ (∀ i, i < k0 → found L i = []) ∧ found L k0 = y :: ys ∧ minT x xs = minR y ys := by
  have h := (law_at h1 h2).1
  unfold tabC at h
  cases e : tabs L with
  | nil => rw [e] at h; cases h
  | cons x xs =>
    rw [e] at h
    obtain ⟨k, hk, h⟩ := List.any_eq_true.mp h
    rw [Bool.and_eq_true] at h
    obtain ⟨a, b⟩ := h
    cases e2 : found L k with
    | nil => rw [e2] at b; cases b
    | cons y ys =>
      rw [e2] at b
      exact ⟨x, xs, k, y, ys, rfl, by have := List.mem_range.mp hk; omega, fun i hi => List.isEmpty_iff.mp (List.all_eq_true.mp a i (List.mem_range.mpr hi)), e2, of_decide_eq_true b⟩
theorem told0 (k : Nat) (hk : k < 4) (w : Wd) : m__law_told [.v (.int 0), .v (.int ((k : Int) + 2))] w = .ok (nD (lgs k)) w := by
  refine s_told0 _ _ w ?_
  match k, hk with
  | 0, _ => exact (s_longest 0 (by omega) _ _ lw0 w).trans rfl
  | 1, _ => exact (s_longest 1 (by omega) _ _ lw1 w).trans rfl
  | 2, _ => exact (s_longest 2 (by omega) _ _ lw2 w).trans rfl
  | 3, _ => exact (s_longest 3 (by omega) _ _ lw3 w).trans rfl
theorem told1 (k : Nat) (hk : k < 4) (w : Wd) : m__law_told [.v (.int 1), .v (.int ((k : Int) + 2))] w = .ok (nD (shs k)) w := by
  refine s_told1 _ _ w ?_
  match k, hk with
  | 0, _ => exact (s_shortest 0 (by omega) _ _ ss0 w).trans rfl
  | 1, _ => exact (s_shortest 1 (by omega) _ _ ss1 w).trans rfl
  | 2, _ => exact (s_shortest 2 (by omega) _ _ ss2 w).trans rfl
  | 3, _ => exact (s_shortest 3 (by omega) _ _ ss3 w).trans rfl
theorem told06 (w : Wd) : m__law_told [.v (.int 0), .v (.int 6)] w = .ok (.int 13) w := s_told0 6 13 w ((s_longest 4 (by omega) _ _ lw4 w).trans rfl)
theorem wrongs {L : Nat} (h1 : 1 ≤ L) (h2 : L ≤ 10) (row : List Int) (w : Wd) : ∀ d ∈ [PyData.list (row.map .int), .tuple [], .tuple [.int 0], .tuple [nD L], .none, .str "marks", .tuple [.int 1, nD L], .tuple [.int 0, .int ((L : Int) + 1)], .tuple [.int 0, nD L, nD L], .tuple [.int 0, .none], .tuple [.bool false, nD L], .tuple [.int 0, .int (-1), nD L], .tuple [.int 0, .str "1", nD L]],
    m_are_marks [.v (nD L), .v d] w = .ok (.bool false) w := by
  have hw := (law_at h1 h2).2.2.2
  unfold wrC at hw
  simp only [Bool.not_eq_true', Bool.or_eq_false_iff] at hw
  obtain ⟨⟨⟨⟨⟨⟨q1, q2⟩, q3⟩, q4⟩, q5⟩, q6⟩, q7⟩ := hw
  have z : ∀ xs : List Int, xs.length ≤ 1000 → marksB L xs = false → m_are_marks [.v (nD L), .v (tR xs)] w = .ok (.bool false) w := fun xs hx h => by rw [s_marks L xs hx w, h]
  intro d hd
  simp only [List.mem_cons, List.not_mem_nil, or_false] at hd
  rcases hd with rfl | rfl | rfl | rfl | rfl | rfl | rfl | rfl | rfl | rfl | rfl | rfl | rfl
  · exact s_marks_ty L _ (by rw [PyData.plain]; exact plain_ints row) rfl w
  · exact z [] (by decide) q1
  · exact z [0] (by decide) q2
  · exact z [(L : Int)] (by simp) q3
  · exact s_marks_ty L _ rfl rfl w
  · exact s_marks_ty L _ rfl rfl w
  · exact z [1, (L : Int)] (by simp) q4
  · exact z [0, (L : Int) + 1] (by simp) q5
  · exact z [0, (L : Int), (L : Int)] (by simp) q6
  · exact s_marks_no L _ rfl (by simp [numB]) w
  · exact s_marks_no L _ rfl (by simp [numB]) w
  · exact z [0, -1, (L : Int)] (by simp) q7
  · exact s_marks_no L _ rfl (by simp [numB]) w
end K98

set_option Elab.async false
set_option linter.all false
set_option maxRecDepth 100000
set_option maxHeartbeats 4000000
namespace K98
open PySem PySem.Spec L2 DL DG PyProof.Rows PySem.W DM
abbrev LX (ns : List Int) (L : Nat) (t4 t5 t6 t7 t8 t9 t10 t11 t12 t13 t14 t15 t16 t17 t18 : Option Sl) : Ev := [some (.sc ns), some .dr, some (.v (nD L)), some (.v (.list ((every L).map tR))), t4, t5, t6, t7, t8, t9, t10, t11, t12, t13, t14, t15, t16, t17, t18, none]
theorem judged_at {L : Nat} (h2 : L ≤ 10) {row : List Int} (hr : row ∈ every L) (w : Wd) : m__law_judged [.v (tR row)] w = .ok (.tuple [.bool (wholeP L row), .bool (singleP row)]) w := by
  obtain ⟨a, b⟩ := every_ok hr h2
  exact s_judged row L (by omega) (by omega) b w
theorem every_sz {L : Nat} (h2 : L ≤ 10) : (every L).length ≤ sizeLine := by
  rw [every_len h2, big]
  exact Nat.le_trans (Nat.pow_le_pow_right (by decide) (show L - 1 ≤ 9 by omega)) (by decide)
section
variable {ns : List Int} {L : Nat} {t4 t5 t6 t7 t8 t9 t10 t11 t12 t13 t14 t15 t16 t17 : Option Sl}
theorem lc_rows (h2 : L ≤ 10) (p : List Int → Bool) (tt : Ev → Wd → R Bool) (w : Wd) (h : ∀ row ∈ every L, tt (LX ns L t4 t5 t6 t7 t8 t9 t10 t11 t12 t13 t14 t15 t16 t17 (some (.v (tR row)))) w = .ok (p row) w) :
    oLc (iS (eV 3)) (gN 18) tt (eV 18) [18] (LX ns L t4 t5 t6 t7 t8 t9 t10 t11 t12 t13 t14 t15 t16 t17 none) w = .ok (((every L).filter p).map tR) w :=
  oLc_filt (xs := every L) tR p (by simp) (every_sz h2) fun row hr => ⟨_, rfl, h row hr, by simp⟩
theorem lc_table (h2 : L ≤ 10) (w : Wd) : oLc (iS (eV 3)) (gN 18) (tstV (eBin dIx (eCallF 1 m__law_judged (aCons (eV 18) aNil)) (eC (.int 0)))) (eTup (lC (eCall gLen (lC (eBw 18) lN)) (lC (eV 18) lN))) [18] (LX ns L t4 t5 t6 t7 t8 t9 t10 t11 t12 t13 t14 t15 t16 t17 none) w = .ok ((tabs L).map tP) w := by
  have two : 2 ≤ sizeLine := by rw [big]; omega
  have e := oLc_map (fi := iS (eV 3)) (tgt := gN 18) (tt := tstV (eBin dIx (eCallF 1 m__law_judged (aCons (eV 18) aNil)) (eC (.int 0)))) (fe := eTup (lC (eCall gLen (lC (eBw 18) lN)) (lC (eV 18) lN))) (vs := [18]) (w := w) (w1 := w) (ρ := LX ns L t4 t5 t6 t7 t8 t9 t10 t11 t12 t13 t14 t15 t16 t17 none)
    (xs := every L) tR tP (wholeP L) id (by simp) (every_sz h2) fun row hr => ⟨_, rfl, by
      have := judged_at h2 hr w
      have z : L2.atI [PyData.bool (wholeP L row), PyData.bool (singleP row)] 0 = some (.bool (wholeP L row)) := atI_nat (j := 0) rfl
      simp [this, z], fun _ => by
      simp [two, tP, nD]
      simp [tR]
      exact two⟩
  rwa [List.map_id] at e
end
theorem minR_mem : ∀ (xs : List (List Int)) (x : List Int), minR x xs ∈ x :: xs
  | [], x => List.mem_cons_self
  | y :: ys, x => by
    show minR (if ltB y x = true then y else x) ys ∈ _
    have := minR_mem ys (if ltB y x = true then y else x)
    rcases List.mem_cons.mp this with h | h
    · rw [h]
      split
      · exact List.mem_cons_of_mem _ List.mem_cons_self
      · exact List.mem_cons_self
    · exact List.mem_cons_of_mem _ (List.mem_cons_of_mem _ h)
theorem dEq_pair (a b : Bool) : dEq (.tuple [.bool a, .bool b]) (.tuple [.bool true, .bool true]) = some (.bool (a && b)) := by
  have := dEq_datum (α := Bool × Bool) (by decide) (a, b) (true, true)
  rw [show (a && b) = decide ((a, b) = (true, true)) by cases a <;> cases b <;> rfl]
  exact this
theorem dNe_intsL (a b : List Int) : dNe (.list (a.map .int)) (.list (b.map .int)) = some (.bool (!decide (a = b))) := dNe_datum (α := List Int) (by decide) a b
theorem dIn_136 (L : Nat) : dIn2 false (nD L) (.tuple [.int 1, .int 3, .int 6]) = some (.bool (decide ((L : Int) ∈ [1, 3, 6]))) := dIn_intsT L [1, 3, 6]
theorem dNe_self {d : D} (h : d.plain = true) (hd : d.depth ≤ 64) : dNe d d = some (.bool false) := by
  unfold dNe eqOk
  rw [h, PySem.SeqAt.eqv_refl_plain d h]
  simp [hd]
theorem rep4 : dMul (.list [.str "range"]) (.int 4) = some (.list [.str "range", .str "range", .str "range", .str "range"]) := by
  show (if repOk 4 1 = true then some (PyData.list (rep 4 [PyData.str "range"])) else none) = _
  rw [if_pos (by simp [repOk, big])]
  rfl
theorem tab4 (k : Nat) (hk : k < 4) : L2.atI [PyData.list [.int 1, .int 1], .list [.int 3, .int 3], .list [.int 6, .int 6], .list [.int 9, .int 11]] (k : Int) = some (.list [nD (lgs k), nD (shs k)]) := by
  match k, hk with
  | 0, _ => rfl
  | 1, _ => rfl
  | 2, _ => rfl
  | 3, _ => rfl
theorem math_ok (ns : List Int) (hl : ns.length ≤ 63) (hb : ∀ z ∈ ns, PySem.Builtin.Int.intBits z ≤ 1048576) : DL.LawTrue 1 20 f_law0 f_law ns := by
  obtain ⟨zs, hd⟩ := s_draws ns hl
  obtain ⟨z, zs1, z0, z1, ht1⟩ := s_take zs 10 (by omega)
  obtain ⟨L, hL, h1, h2⟩ : ∃ L : Nat, 1 + z = (L : Int) ∧ 1 ≤ L ∧ L ≤ 10 := ⟨(1 + z).toNat, by omega, by omega, by omega⟩
  obtain ⟨x, xs, k0, y, ys, e1, e2, e3, e4, e5⟩ := tab_at h1 h2
  obtain ⟨_, hboth, hfit, _⟩ := law_at h1 h2
  suffices h : ∃ w2, f_law ((ent 1 20 [.sc ns]).set 1 (some .dr)) (zs.map .int) = .rt (.bool true) w2 by
    obtain ⟨w2, h⟩ := h
    exact ⟨_, [], w2, by unfold f_law0; rw [u_oCallF]; exact hd, h⟩
  have one : 1 ≤ sizeLine := by rw [big]; omega
  have two : 2 ≤ sizeLine := by rw [big]; omega
  have three : 3 ≤ sizeLine := by rw [big]; omega
  have four : 4 ≤ sizeLine := by rw [big]; omega
  have n13 : 13 ≤ sizeLine := by rw [big]; omega
  unfold f_law
  -- the loop
  obtain ⟨ρ3, w3, eL, hI⟩ := forL_inv nD (tgt := gN 5) (body := body) (fun ps ρ w => ∃ (zs' : List Int) (a5 b c d e f : Option Sl), w = zs'.map .int ∧ ρ = Ev1 ns L (.list ((tabs L).map tP)) a5 b c d e f ∧ (ps ≠ [] → ∃ row, row ∈ every L ∧ b = some (.v (tR row)))) (List.range 8) [] (Ev1 ns L (.list ((tabs L).map tP)) none none none none none none) (zs1.map .int)
    ⟨zs1, none, none, none, none, none, none, rfl, rfl, fun h => absurd rfl h⟩ (by
      rintro p k q ρ w hx ⟨zs', a5, b, c, d, e, f, rfl, rfl, _⟩
      obtain ⟨zs2, row, c', d', e', f', hr, hbd⟩ := s_body ns L h1 h2 (.list ((tabs L).map tP)) (some (.v (nD k))) b c d e f zs'
      exact ⟨_, _, _, rfl, .inl hbd, zs2, _, _, c', d', e', f', rfl, rfl, fun _ => ⟨row, hr, rfl⟩⟩)
  obtain ⟨zs3, a5, b13, c, d, e, f, rfl, rfl, hrow⟩ := hI
  obtain ⟨row, hr, rfl⟩ := hrow (by simp)
  obtain ⟨z4, zs4, y0, y1, ht4⟩ := s_take zs3 4 (by omega)
  obtain ⟨k, rfl⟩ : ∃ k : Nat, z4 = (k : Int) := ⟨z4.toNat, by omega⟩
  have hk : k < 4 := by omega
  have hF := hfit k hk
  refine ⟨zs4.map .int, ?_⟩
  refine seq_step (ρ1 := some (.sc ns) :: some .dr :: some (.v (nD L)) :: List.replicate 17 none) (w1 := zs1.map .int) ?_ ?_
  · simp [ht1, hL, nD]
  refine seq_step (ρ1 := LX ns L none none none none none none none none none none none none none none none) (w1 := zs1.map .int) ?_ ?_
  · simp [s_all L h1 h2]
  refine seq_step (ρ1 := LX ns L (some (.ol ((tabs L).map tP))) none none none none none none none none none none none none none none) (w1 := zs1.map .int) ?_ ?_
  · rw [u_sOwn, lc_table h2]; simp
  refine seq_step (ρ1 := LX ns L (some (.v (.list ((tabs L).map tP)))) none none none none none none none none none none none none none none) (w1 := zs1.map .int) ?_ ?_
  · simp
  refine seq_step (ρ1 := LX ns L (some (.v (.list ((tabs L).map tP)))) none none none none none none none none none none none none none none) (w1 := zs1.map .int) ?_ ?_
  · have hw := s_whole_marks L k0 (by omega) e2 y ys e4 e3 (zs1.map .int)
    have hm : minR y ys ∈ found L k0 ∨ True := .inr trivial
    have z1 : L2.atI [nD (minT x xs).length, tR (minT x xs)] 1 = some (tR (minT x xs)) := atI_nat (j := 1) rfl
    have hs := s_same' (tR (minR y ys)) (zs1.map .int) (plain_tR _) (sml_tR _ (by have q := minR_mem ys y; rw [← e4] at q; have := (allM_ok (List.mem_filter.mp q).1).1; omega)) (by rw [depth_tR]; omega)
    have hg : gMin [.list ((tabs L).map tP)] = some (.tuple [nD (minT x xs).length, tR (minT x xs)]) := by rw [e1]; exact gMin_tP x xs
    rw [e5] at z1 hg
    simp [hw, hg, z1, hs]
  refine seq_step (ρ1 := Ev1 ns L (.list ((tabs L).map tP)) a5 (some (.v (tR row))) c d e f) (w1 := zs3.map .int) ?_ ?_
  · have r8 : iR1 (eC (.int 8)) (LX ns L (some (.v (.list ((tabs L).map tP)))) none none none none none none none none none none none none none none) (zs1.map .int) = .ok ((List.range 8).map nD) (zs1.map .int) := by
      rw [iR1_ok (j := 8) (w1 := zs1.map .int) rfl (by omega) (by omega)]
      rfl
    rw [u_sFor, r8, bindS_ok]
    exact eL
  have hj := fun (row : List Int) (hr : row ∈ every L) (w : Wd) => judged_at h2 hr w
  have eb := lc_rows (ns := ns) (t4 := some (.v (.list ((tabs L).map tP)))) (t5 := a5) (t6 := none) (t7 := none) (t8 := none) (t9 := none) (t10 := none) (t11 := none) (t12 := none) (t13 := some (.v (tR row))) (t14 := c) (t15 := d) (t16 := e) (t17 := f) h2 (fun row => wholeP L row && singleP row)
    (tCm dEq (eCallF 1 m__law_judged (aCons (eV 18) aNil)) (eTup (lC (eC (.bool true)) (lC (eC (.bool true)) lN)))) (zs3.map .int) fun row hr => by
      have := hj row hr (zs3.map .int)
      simp [this, two, dEq_pair]
  refine seq_step (ρ1 := LX ns L (some (.v (.list ((tabs L).map tP)))) a5 (some (.ol ((bothL L).map tR))) none none none none none none (some (.v (tR row))) c d e f none) (w1 := zs3.map .int) ?_ ?_
  · rw [u_sOwn, eb]; simp [bothL]
  refine seq_step (ρ1 := LX ns L (some (.v (.list ((tabs L).map tP)))) a5 (some (.v (.list ((bothL L).map tR)))) none none none none none none (some (.v (tR row))) c d e f none) (w1 := zs3.map .int) ?_ ?_
  · simp
  refine seq_step (ρ1 := LX ns L (some (.v (.list ((tabs L).map tP)))) a5 (some (.v (.list ((bothL L).map tR)))) none none none none none none (some (.v (tR row))) c d e f none) (w1 := zs3.map .int) ?_ ?_
  · have q1 := dNe_nil (plain_rows (bothL L))
    rw [List.isEmpty_map, hboth] at q1
    have q2 := dIn_136 L
    simp only [u_sIf, u_tCm, u_eBin, u_eBw, u_eFz, u_oLst, u_lN, u_lC, u_eC, u_eTup, List.getElem?_cons_succ, List.getElem?_cons_zero, bind_ok, List.length_nil, List.length_cons, Nat.zero_le, Nat.reduceAdd, Nat.zero_add, if_true, q1, of_some, three, q2, dNe_bool, Option.bind_some, u_bOfb, bindS_ok, decide_true, Bool.not_true, Bool.false_eq_true, if_false, u_sNil]
  refine seq_step (ρ1 := LX ns L (some (.v (.list ((tabs L).map tP)))) a5 (some (.v (.list ((bothL L).map tR)))) (some (.v (.int ((k : Int) + 2)))) none none none none none (some (.v (tR row))) c d e f none) (w1 := zs4.map .int) ?_ ?_
  · simp [ht4]
    omega
  refine seq_step (ρ1 := LX ns L (some (.v (.list ((tabs L).map tP)))) a5 (some (.v (.list ((bothL L).map tR)))) (some (.v (.int ((k : Int) + 2)))) (some (.v (nD (lgs k)))) (some (.v (nD (shs k)))) none none none (some (.v (tR row))) c d e f none) (w1 := zs4.map .int) ?_ ?_
  · have q1 := told0 k hk (zs4.map .int)
    have q2 := told1 k hk (zs4.map .int)
    unfold sPar
    simp [q1, q2]
  have ef := lc_rows (ns := ns) (t4 := some (.v (.list ((tabs L).map tP)))) (t5 := a5) (t6 := some (.v (.list ((bothL L).map tR)))) (t7 := some (.v (.int ((k : Int) + 2)))) (t8 := some (.v (nD (lgs k)))) (t9 := some (.v (nD (shs k)))) (t10 := none) (t11 := none) (t12 := none) (t13 := some (.v (tR row))) (t14 := c) (t15 := d) (t16 := e) (t17 := f) h2 (fun row => decide (row.length = k + 2) && wholeP L row)
    (tAn (tCm dEq (eCall gLen (lC (eBw 18) lN)) (eBw 7)) (tstV (eBin dIx (eCallF 1 m__law_judged (aCons (eV 18) aNil)) (eC (.int 0))))) (zs4.map .int) fun row hr => by
      have := hj row hr (zs4.map .int)
      have z : L2.atI [PyData.bool (wholeP L row), PyData.bool (singleP row)] 0 = some (.bool (wholeP L row)) := atI_nat (j := 0) rfl
      have q : decide ((row.length : Int) = (k : Int) + 2) = decide (row.length = k + 2) := decide_eq_decide.mpr (by omega)
      have g : gLen [tR row] = some (.int (row.length : Int)) := by simp [tR]
      by_cases h : row.length = k + 2
      · have h' : ((k : Int) + 2) = (k : Int) + 2 := rfl
        simp [this, z, dEq_int, g, h]
      · have h' : ¬ ((row.length : Int) = (k : Int) + 2) := by omega
        simp [this, z, dEq_int, g, h, h']
  refine seq_step (ρ1 := LX ns L (some (.v (.list ((tabs L).map tP)))) a5 (some (.v (.list ((bothL L).map tR)))) (some (.v (.int ((k : Int) + 2)))) (some (.v (nD (lgs k)))) (some (.v (nD (shs k)))) (some (.ol ((fitL L k).map tR))) none none (some (.v (tR row))) c d e f none) (w1 := zs4.map .int) ?_ ?_
  · rw [u_sOwn, ef]; simp [fitL]
  refine seq_step (ρ1 := LX ns L (some (.v (.list ((tabs L).map tP)))) a5 (some (.v (.list ((bothL L).map tR)))) (some (.v (.int ((k : Int) + 2)))) (some (.v (nD (lgs k)))) (some (.v (nD (shs k)))) (some (.v (.list ((fitL L k).map tR)))) none none (some (.v (tR row))) c d e f none) (w1 := zs4.map .int) ?_ ?_
  · simp
  have eg := lc_rows (ns := ns) (t4 := some (.v (.list ((tabs L).map tP)))) (t5 := a5) (t6 := some (.v (.list ((bothL L).map tR)))) (t7 := some (.v (.int ((k : Int) + 2)))) (t8 := some (.v (nD (lgs k)))) (t9 := some (.v (nD (shs k)))) (t10 := some (.v (.list ((fitL L k).map tR)))) (t11 := none) (t12 := none) (t13 := some (.v (tR row))) (t14 := c) (t15 := d) (t16 := e) (t17 := f) h2 (fun row => decide (row.length = k + 2) && singleP row)
    (tAn (tCm dEq (eCall gLen (lC (eBw 18) lN)) (eBw 7)) (tstV (eBin dIx (eCallF 1 m__law_judged (aCons (eV 18) aNil)) (eC (.int 1))))) (zs4.map .int) fun row hr => by
      have := hj row hr (zs4.map .int)
      have z : L2.atI [PyData.bool (wholeP L row), PyData.bool (singleP row)] 1 = some (.bool (singleP row)) := atI_nat (j := 1) rfl
      have g : gLen [tR row] = some (.int (row.length : Int)) := by simp [tR]
      by_cases h : row.length = k + 2
      · simp [this, z, dEq_int, g, h]
      · have h' : ¬ ((row.length : Int) = (k : Int) + 2) := by omega
        simp [this, z, dEq_int, g, h, h']
  refine seq_step (ρ1 := LX ns L (some (.v (.list ((tabs L).map tP)))) a5 (some (.v (.list ((bothL L).map tR)))) (some (.v (.int ((k : Int) + 2)))) (some (.v (nD (lgs k)))) (some (.v (nD (shs k)))) (some (.v (.list ((fitL L k).map tR)))) (some (.ol ((sngL L k).map tR))) none (some (.v (tR row))) c d e f none) (w1 := zs4.map .int) ?_ ?_
  · rw [u_sOwn, eg]; simp [sngL]
  refine seq_step (ρ1 := LX ns L (some (.v (.list ((tabs L).map tP)))) a5 (some (.v (.list ((bothL L).map tR)))) (some (.v (.int ((k : Int) + 2)))) (some (.v (nD (lgs k)))) (some (.v (nD (shs k)))) (some (.v (.list ((fitL L k).map tR)))) (some (.v (.list ((sngL L k).map tR)))) none (some (.v (tR row))) c d e f none) (w1 := zs4.map .int) ?_ ?_
  · simp
  unfold fitC at hF
  simp only [Bool.and_eq_true, Bool.not_eq_true', Bool.or_eq_false_iff] at hF
  obtain ⟨⟨f1, f2⟩, ⟨f3, f4⟩⟩ := hF
  have qf := dNe_nil (plain_rows (fitL L k))
  have qs := dNe_nil (plain_rows (sngL L k))
  have qf2 := dEq_nil (plain_rows (fitL L k))
  have qs2 := dEq_nil (plain_rows (sngL L k))
  rw [List.isEmpty_map] at qf qs qf2 qs2
  have c1 : decide ((lgs k : Int) < (L : Int)) = decide (lgs k < L) := decide_eq_decide.mpr (by omega)
  have c2 : decide ((L : Int) < (shs k : Int)) = decide (L < shs k) := decide_eq_decide.mpr (by omega)
  have c3 : decide ((L : Int) = (lgs k : Int)) = decide (L = lgs k) := decide_eq_decide.mpr (by omega)
  have c4 : decide ((L : Int) = (shs k : Int)) = decide (L = shs k) := decide_eq_decide.mpr (by omega)
  have ec : ((k : Int) + 2 - 2) = (k : Int) := by omega
  have qd : dNe (.list [nD (lgs k), nD (shs k)]) (.list [nD (lgs k), nD (shs k)]) = some (.bool false) := dNe_self (by rfl) (by simp [PyData.depth, PyData.depthAll, nD])
  have qt := tab4 k hk
  simp only [nD] at qd qt
  refine seq_step (ρ1 := LX ns L (some (.v (.list ((tabs L).map tP)))) a5 (some (.v (.list ((bothL L).map tR)))) (some (.v (.int ((k : Int) + 2)))) (some (.v (nD (lgs k)))) (some (.v (nD (shs k)))) (some (.v (.list ((fitL L k).map tR)))) (some (.v (.list ((sngL L k).map tR)))) none (some (.v (tR row))) c d e f none) (w1 := zs4.map .int) ?_ ?_
  · cases hfe : (fitL L k).isEmpty <;> cases hse : (sngL L k).isEmpty <;> rw [hfe] at f1 f3 qf qf2 <;> rw [hse] at f2 f4 qs qs2 <;> simp only [Bool.not_true, Bool.not_false, Bool.true_and, Bool.false_and] at f1 f2 qf qs <;>
      simp only [u_sIf, u_tOo, u_tAn, u_tCm, u_eBin, u_eBw, u_eV, u_eFz, u_oLst, u_lN, u_lC, u_eC, List.getElem?_cons_succ, List.getElem?_cons_zero, bind_ok, List.length_nil, List.length_cons, Nat.zero_le, Nat.reduceAdd, Nat.zero_add, if_true, two, four, u_subI, of_some, ec, u_ixL, qt, qd, Option.bind_some, u_bOfb, Bool.false_eq_true, if_false, qf, qs, nD, u_gtI, u_ltI, c1, c2, f1, f2, bindS_ok, u_sNil]
  refine seq_step (ρ1 := LX ns L (some (.v (.list ((tabs L).map tP)))) a5 (some (.v (.list ((bothL L).map tR)))) (some (.v (.int ((k : Int) + 2)))) (some (.v (nD (lgs k)))) (some (.v (nD (shs k)))) (some (.v (.list ((fitL L k).map tR)))) (some (.v (.list ((sngL L k).map tR)))) none (some (.v (tR row))) c d e f none) (w1 := zs4.map .int) ?_ ?_
  · cases hfe : decide (L = lgs k) <;> cases hse : decide (L = shs k) <;> rw [hfe] at f3 c3 <;> rw [hse] at f4 c4 <;> simp only [Bool.true_and, Bool.false_and] at f3 f4 <;>
      simp only [u_sIf, u_tOo, u_tAn, u_tCm, u_eBin, u_eBw, u_eV, u_eFz, u_oLst, u_lN, u_lC, u_eC, List.getElem?_cons_succ, List.getElem?_cons_zero, bind_ok, List.length_nil, List.length_cons, Nat.zero_le, if_true, of_some, Option.bind_some, u_bOfb, Bool.false_eq_true, if_false, qf2, qs2, nD, dEq_int, c3, c4, f3, f4, bindS_ok, u_sNil]
  refine seq_step (ρ1 := LX ns L (some (.v (.list ((tabs L).map tP)))) a5 (some (.v (.list ((bothL L).map tR)))) (some (.v (.int ((k : Int) + 2)))) (some (.v (nD (lgs k)))) (some (.v (nD (shs k)))) (some (.v (.list ((fitL L k).map tR)))) (some (.v (.list ((sngL L k).map tR)))) none (some (.v (tR row))) c d e f none) (w1 := zs4.map .int) ?_ ?_
  · have r1 := oLc_mapT (fi := iS (eFz (oLst (lC (eC (.int 1)) (lC (eC (.int 7)) lN))))) (tgt := gN 19) (fe := eCallF 2 m__law_told (aCons (eC (.int 0)) (aCons (eV 19) aNil))) (vs := [19]) (w := zs4.map .int) (w1 := zs4.map .int) (ρ := LX ns L (some (.v (.list ((tabs L).map tP)))) a5 (some (.v (.list ((bothL L).map tR)))) (some (.v (.int ((k : Int) + 2)))) (some (.v (nD (lgs k)))) (some (.v (nD (shs k)))) (some (.v (.list ((fitL L k).map tR)))) (some (.v (.list ((sngL L k).map tR)))) none (some (.v (tR row))) c d e f none)
      (xs := [1, 7]) PyData.int id (fun _ => PyData.str "range") (by simp [two]) (by simp [two]) fun x hx => ⟨_, rfl, by
        have hx : x < 2 ∨ 6 < x := by simp at hx; omega
        have := s_told0x x (zs4.map .int) (s_longest_x x hx _)
        simp [this]⟩
    have r2 := oLc_mapT (fi := iS (eFz (oLst (lC (eC (.int 1)) (lC (eC (.int 6)) lN))))) (tgt := gN 19) (fe := eCallF 2 m__law_told (aCons (eC (.int 1)) (aCons (eV 19) aNil))) (vs := [19]) (w := zs4.map .int) (w1 := zs4.map .int) (ρ := LX ns L (some (.v (.list ((tabs L).map tP)))) a5 (some (.v (.list ((bothL L).map tR)))) (some (.v (.int ((k : Int) + 2)))) (some (.v (nD (lgs k)))) (some (.v (nD (shs k)))) (some (.v (.list ((fitL L k).map tR)))) (some (.v (.list ((sngL L k).map tR)))) none (some (.v (tR row))) c d e f none)
      (xs := [1, 6]) PyData.int id (fun _ => PyData.str "range") (by simp [two]) (by simp [two]) fun x hx => ⟨_, rfl, by
        have hx : x < 2 ∨ 5 < x := by simp at hx; omega
        have := s_told1x x (zs4.map .int) (s_shortest_x x hx _)
        simp [this]⟩
    have q6 := told06 (zs4.map .int)
    have qa : dAdd (.list ((([1, 7] : List Int).map fun _ => PyData.str "range").map id)) (.list ((([1, 6] : List Int).map fun _ => PyData.str "range").map id)) = some (.list [.str "range", .str "range", .str "range", .str "range"]) := by
      show (if 2 + 2 ≤ sizeLine then some (PyData.list [.str "range", .str "range", .str "range", .str "range"]) else none) = _
      rw [if_pos four]
    have qn : dNe (.list [.str "range", .str "range", .str "range", .str "range"]) (.list [.str "range", .str "range", .str "range", .str "range"]) = some (.bool false) := dNe_self rfl (by simp [PyData.depth, PyData.depthAll])
    have ql : oLst (lC (eC (.str "range")) lN) (LX ns L (some (.v (.list ((tabs L).map tP)))) a5 (some (.v (.list ((bothL L).map tR)))) (some (.v (.int ((k : Int) + 2)))) (some (.v (nD (lgs k)))) (some (.v (nD (shs k)))) (some (.v (.list ((fitL L k).map tR)))) (some (.v (.list ((sngL L k).map tR)))) none (some (.v (tR row))) c d e f none) (zs4.map .int) = .ok [.str "range"] (zs4.map .int) := by
      simp [one]
    have q13 : dNe (.int 13) (.int 13) = some (.bool false) := dNe_int 13 13
    rw [u_sIf, u_tOo, u_tCm, u_eBin, u_eFz, r1, bind_ok, bind_ok, u_eFz, r2, bind_ok, bind_ok, qa, of_some, bind_ok, u_eBin, u_eFz, ql, bind_ok, bind_ok, u_eC, bind_ok, rep4, of_some, bind_ok, qn]
    simp [q6, q13]
  have hw := wrongs h1 h2 row (zs4.map .int)
  refine seq_step (ρ1 := LX ns L (some (.v (.list ((tabs L).map tP)))) a5 (some (.v (.list ((bothL L).map tR)))) (some (.v (.int ((k : Int) + 2)))) (some (.v (nD (lgs k)))) (some (.v (nD (shs k)))) (some (.v (.list ((fitL L k).map tR)))) (some (.v (.list ((sngL L k).map tR)))) (some (.v (.list [PyData.list (row.map .int), .tuple [], .tuple [.int 0], .tuple [nD L], .none, .str "marks", .tuple [.int 1, nD L], .tuple [.int 0, .int ((L : Int) + 1)], .tuple [.int 0, nD L, nD L], .tuple [.int 0, .none], .tuple [.bool false, nD L], .tuple [.int 0, .int (-1), nD L], .tuple [.int 0, .str "1", nD L]]))) (some (.v (tR row))) c d e f none) (w1 := zs4.map .int) ?_ ?_
  · have hg : gList [tR row] = some (row.map .int) := rfl
    have ha : dAdd (nD L) (.int 1) = some (.int ((L : Int) + 1)) := rfl
    simp only [u_sAsg, u_eFz, u_oLst, u_lC, u_lN, u_oCall, u_eBw, u_eV, u_eC, u_eTup, u_eBin, u_eNeg, u_negI, List.getElem?_cons_succ, List.getElem?_cons_zero, bind_ok, hg, ha, of_some, List.length_cons, List.length_nil, Nat.zero_add, Nat.reduceAdd, Nat.zero_le, one, two, three, n13, if_true, bindS_ok, u_gN, Nat.reduceLT, ofO_some, List.set_cons_succ, List.set_cons_zero]
  generalize hW : [PyData.list (row.map .int), .tuple [], .tuple [.int 0], .tuple [nD L], .none, .str "marks", .tuple [.int 1, nD L], .tuple [.int 0, .int ((L : Int) + 1)], .tuple [.int 0, nD L, nD L], .tuple [.int 0, .none], .tuple [.bool false, nD L], .tuple [.int 0, .int (-1), nD L], .tuple [.int 0, .str "1", nD L]] = W at hw ⊢
  have hWl : W.length ≤ sizeLine := by rw [← hW]; exact n13
  have ew := oLc_filt (fi := iS (eV 12)) (tgt := gN 19) (tt := tCm dNis (eCallF 2 m_are_marks (aCons (eV 2) (aCons (eV 19) aNil))) (eC (.bool false))) (fe := eV 19) (vs := [19]) (w := zs4.map .int) (w1 := zs4.map .int) (ρ := LX ns L (some (.v (.list ((tabs L).map tP)))) a5 (some (.v (.list ((bothL L).map tR)))) (some (.v (.int ((k : Int) + 2)))) (some (.v (nD (lgs k)))) (some (.v (nD (shs k)))) (some (.v (.list ((fitL L k).map tR)))) (some (.v (.list ((sngL L k).map tR)))) (some (.v (.list W))) (some (.v (tR row))) c d e f none)
    (xs := W) id (fun _ => false) (by simp) hWl fun x hx => ⟨_, rfl, by
      have := hw x hx
      simp [this], by simp⟩
  have hz : (W.filter fun _ => false) = [] := List.filter_eq_nil_iff.mpr fun _ _ => by decide
  rw [hz, List.map_nil] at ew
  have qz : dEq (.list []) (.list []) = some (.bool true) := dEq_nil rfl
  simp only [u_sRet, u_eBin, u_eFz, ew, bind_ok, u_oLst, u_lN, List.length_nil, Nat.zero_le, if_true, qz, of_some, bindS_ok]
end K98

set_option Elab.async false
set_option linter.all false
set_option maxRecDepth 100000
set_option maxHeartbeats 4000000
namespace K98
open PySem PySem.Spec PyProof.Rows L2 DL DG
open GxR (TabB TabG)
theorem tabB_of {b : Heap} {m : Str → Option Value} {c Q : Addr} (t : LamX.TabB b m c Q) : GxR.TabB b m c Q := ⟨t.code, t.bm, t.gP⟩
theorem lookup_mem {K : PySem.W.Frag} {a : Addr} {o : Obj} (h : K.lookup a = some o) : (a, o) ∈ K := by
  induction K with
  | nil => cases h
  | cons p r ih =>
    obtain ⟨b, u⟩ := p
    have h : List.lookup a ((b, u) :: r) = some o := h
    rw [List.lookup_cons] at h
    split at h
    · rename_i q
      have q := beq_iff_eq.mp q
      cases h
      rw [q]; exact List.mem_cons_self
    · exact List.mem_cons_of_mem _ (ih h)
theorem tab_of {q : Program} {mg : Str → Option Value} {K : PySem.W.Frag} {h : Heap} {x : Str} {st : Stmt} {ps : List Str} {f : Addr} {fd : FuncData} (X : K.In h) (TB : AllTabs q mg h) (D0 : Df K mg x st ps f fd)
    (hq : ((recsOf q).any fun e => e.name == x) = true) (hn : (K.all fun p => match p.2.cls, p.2.data with | .none, .fields vs => vs.size != 0 | _, _ => true) = true) : ∃ c Q, fd.code = .ref c ∧ h.get? Q = some { cls := .none, data := .fields #[] } ∧ PySem.W.CodeHd h c Q ∧ K.lookup Q = none := by
  obtain ⟨d, hd, hn1⟩ := List.any_eq_true.mp hq
  have hn1 : d.name = x := beq_iff_eq.mp hn1
  obtain ⟨a, o, fd', c', Q', h1, h2, h3, h4, h5, h6⟩ := TB d hd
  rw [hn1, D0.gm] at h1
  cases h1
  obtain ⟨oc, od, kV, doc, pm, an, cdv, ct, osl, e1, lk, _⟩ := D0.fn.ex
  rw [X _ _ lk] at h2
  cases h2
  cases h3
  refine ⟨c', Q', h4, h6.2, PySem.W.CodeHd.of h5 h6, ?_⟩
  cases e : K.lookup Q' with
  | none => rfl
  | some o =>
    have z := List.all_eq_true.mp hn _ (lookup_mem e)
    have h62 := h6.2
    rw [X _ _ e] at h62
    cases h62
    exact absurd (show ((0 : Nat) != 0) = true from z) (by decide)
theorem all_mk {w : World} {K : PySem.W.Frag} {h : Heap} {mg : Str → Option Value} {fa : Addr} (X : K.In h) (G : h.Ns mainGlobals mg) (hfa : mg "law" = some (.ref fa)) (TB : AllTabs PySem.Challenge.rw_campslaid_k98_whole_marked_poles.prog mg h)
    {t_MOST_LENGTH : Tok} {a_CampError : Addr} {a_OutOfRange : Addr} {fA_is_number : Addr} {oc_is_number kV_is_number dc_is_number pm_is_number cd_is_number ct_is_number : Value} {od_is_number an_is_number : Option Addr} {sl_is_number : Array (Option Value)} {fA_are_marks : Addr} {oc_are_marks kV_are_marks dc_are_marks pm_are_marks cd_are_marks ct_are_marks : Value} {od_are_marks an_are_marks : Option Addr} {sl_are_marks : Array (Option Value)} {fA_lengths_of : Addr} {oc_lengths_of kV_lengths_of dc_lengths_of pm_lengths_of cd_lengths_of ct_lengths_of : Value} {od_lengths_of an_lengths_of : Option Addr} {sl_lengths_of : Array (Option Value)} {fA_are_whole : Addr} {oc_are_whole kV_are_whole dc_are_whole pm_are_whole cd_are_whole ct_are_whole : Value} {od_are_whole an_are_whole : Option Addr} {sl_are_whole : Array (Option Value)} {fA_are_single : Addr} {oc_are_single kV_are_single dc_are_single pm_are_single cd_are_single ct_are_single : Value} {od_are_single an_are_single : Option Addr} {sl_are_single : Array (Option Value)} {fA_all_marks : Addr} {oc_all_marks kV_all_marks dc_all_marks pm_all_marks cd_all_marks ct_all_marks : Value} {od_all_marks an_all_marks : Option Addr} {sl_all_marks : Array (Option Value)} {fA_whole_marks : Addr} {oc_whole_marks kV_whole_marks dc_whole_marks pm_whole_marks cd_whole_marks ct_whole_marks : Value} {od_whole_marks an_whole_marks : Option Addr} {sl_whole_marks : Array (Option Value)} {fA_longest_whole : Addr} {oc_longest_whole kV_longest_whole dc_longest_whole pm_longest_whole cd_longest_whole ct_longest_whole : Value} {od_longest_whole an_longest_whole : Option Addr} {sl_longest_whole : Array (Option Value)} {fA_shortest_single : Addr} {oc_shortest_single kV_shortest_single dc_shortest_single pm_shortest_single cd_shortest_single ct_shortest_single : Value} {od_shortest_single an_shortest_single : Option Addr} {sl_shortest_single : Array (Option Value)} {fA__law_draws : Addr} {oc__law_draws kV__law_draws dc__law_draws pm__law_draws cd__law_draws ct__law_draws : Value} {od__law_draws an__law_draws : Option Addr} {sl__law_draws : Array (Option Value)} {fA__law_take : Addr} {oc__law_take kV__law_take dc__law_take pm__law_take cd__law_take ct__law_take : Value} {od__law_take an__law_take : Option Addr} {sl__law_take : Array (Option Value)} {fA__law_same : Addr} {oc__law_same kV__law_same dc__law_same pm__law_same cd__law_same ct__law_same : Value} {od__law_same an__law_same : Option Addr} {sl__law_same : Array (Option Value)} {fA__law_told : Addr} {oc__law_told kV__law_told dc__law_told pm__law_told cd__law_told ct__law_told : Value} {od__law_told an__law_told : Option Addr} {sl__law_told : Array (Option Value)} {fA__law_counts : Addr} {oc__law_counts kV__law_counts dc__law_counts pm__law_counts cd__law_counts ct__law_counts : Value} {od__law_counts an__law_counts : Option Addr} {sl__law_counts : Array (Option Value)} {fA__law_judged : Addr} {oc__law_judged kV__law_judged dc__law_judged pm__law_judged cd__law_judged ct__law_judged : Value} {od__law_judged an__law_judged : Option Addr} {sl__law_judged : Array (Option Value)} {fA__law_all : Addr} {oc__law_all kV__law_all dc__law_all pm__law_all cd__law_all ct__law_all : Value} {od__law_all an__law_all : Option Addr} {sl__law_all : Array (Option Value)} {fA_law : Addr} {oc_law kV_law dc_law pm_law cd_law ct_law : Value} {od_law an_law : Option Addr} {sl_law : Array (Option Value)}
    (nb_abs : PySem.W.nsIn K mainGlobals "abs" = some none)
    (nb_all : PySem.W.nsIn K mainGlobals "all" = some none)
    (nb_any : PySem.W.nsIn K mainGlobals "any" = some none)
    (nb_bool : PySem.W.nsIn K mainGlobals "bool" = some none)
    (nb_enumerate : PySem.W.nsIn K mainGlobals "enumerate" = some none)
    (nb_int : PySem.W.nsIn K mainGlobals "int" = some none)
    (nb_isinstance : PySem.W.nsIn K mainGlobals "isinstance" = some none)
    (nb_len : PySem.W.nsIn K mainGlobals "len" = some none)
    (nb_list : PySem.W.nsIn K mainGlobals "list" = some none)
    (nb_max : PySem.W.nsIn K mainGlobals "max" = some none)
    (nb_min : PySem.W.nsIn K mainGlobals "min" = some none)
    (nb_range : PySem.W.nsIn K mainGlobals "range" = some none)
    (nb_reversed : PySem.W.nsIn K mainGlobals "reversed" = some none)
    (nb_sorted : PySem.W.nsIn K mainGlobals "sorted" = some none)
    (nb_str : PySem.W.nsIn K mainGlobals "str" = some none)
    (nb_tuple : PySem.W.nsIn K mainGlobals "tuple" = some none)
    (nc_MOST_LENGTH : PySem.W.nsIn K mainGlobals "MOST_LENGTH" = some (some (.int 14 t_MOST_LENGTH)))
    (ne_CampError : PySem.W.nsIn K mainGlobals "CampError" = some (some (.ref a_CampError)))
    (sb_CampError : PySem.W.subIn K (.ref a_CampError) (.type "BaseException") = some true)
    (ty_CampError : PySem.W.typeIn K (.ref a_CampError) = some (.type "type"))
    (hd_CampError : PySem.W.hasDictIn K a_CampError = true)
    (ne_OutOfRange : PySem.W.nsIn K mainGlobals "OutOfRange" = some (some (.ref a_OutOfRange)))
    (sb_OutOfRange : PySem.W.subIn K (.ref a_OutOfRange) (.type "BaseException") = some true)
    (ty_OutOfRange : PySem.W.typeIn K (.ref a_OutOfRange) = some (.type "type"))
    (hd_OutOfRange : PySem.W.hasDictIn K a_OutOfRange = true)
    (q_OutOfRange : PySem.W.excIn K a_OutOfRange [.type "ValueError", .type "Exception", .type "BaseException", .type "object"] "ValueError.__new__" = true)
    (kp_OutOfRange : PySem.W.keepIn K (.ref a_OutOfRange) = true)
    (hg_OutOfRange : PySem.W.findIn K (.ref a_OutOfRange) "__getattribute__" = some (some (.builtin "BaseException.__getattribute__")))
    (hk_OutOfRange : PySem.W.findIn K (.ref a_OutOfRange) "__getattr__" = some none)
    (ha_OutOfRange : PySem.W.findIn K (.ref a_OutOfRange) "__class__" = some (some (.builtin "object.__class__")))
    (hm_OutOfRange : PySem.W.mroIn K a_OutOfRange (.type "object") = some true)
    (sx_OutOfRange_CampError : PySem.W.subIn K (.ref a_OutOfRange) (.ref a_CampError) = some true)
    (hn_ : PySem.W.specialIn K (.builtin "object.__class__") "__get__" = some (some (.builtin "getset_descriptor.__get__")))
    (ht_ : PySem.W.takesIn K (.builtin "object.__class__") = some true)
    (a_d_is_number : PySem.W.nsIn K mainGlobals "is_number" = some (some (.ref fA_is_number)))
    (l_is_number : K.lookup fA_is_number = some ⟨oc_is_number, od_is_number, .func (PySem.W.fnOf "is_number" "is_number" (defArgs st_is_number) (defBody st_is_number) (defScope st_is_number) .none kV_is_number dc_is_number pm_is_number an_is_number (cd_is_number) ct_is_number), sl_is_number⟩)
    (cc_is_number : PySem.W.codeIn K (cd_is_number) "is_number" = true)
    (kk_is_number : PySem.W.keepIn K (.ref fA_is_number) = true)
    (a_d_are_marks : PySem.W.nsIn K mainGlobals "are_marks" = some (some (.ref fA_are_marks)))
    (l_are_marks : K.lookup fA_are_marks = some ⟨oc_are_marks, od_are_marks, .func (PySem.W.fnOf "are_marks" "are_marks" (defArgs st_are_marks) (defBody st_are_marks) (defScope st_are_marks) .none kV_are_marks dc_are_marks pm_are_marks an_are_marks (cd_are_marks) ct_are_marks), sl_are_marks⟩)
    (cc_are_marks : PySem.W.codeIn K (cd_are_marks) "are_marks" = true)
    (kk_are_marks : PySem.W.keepIn K (.ref fA_are_marks) = true)
    (a_d_lengths_of : PySem.W.nsIn K mainGlobals "lengths_of" = some (some (.ref fA_lengths_of)))
    (l_lengths_of : K.lookup fA_lengths_of = some ⟨oc_lengths_of, od_lengths_of, .func (PySem.W.fnOf "lengths_of" "lengths_of" (defArgs st_lengths_of) (defBody st_lengths_of) (defScope st_lengths_of) .none kV_lengths_of dc_lengths_of pm_lengths_of an_lengths_of (cd_lengths_of) ct_lengths_of), sl_lengths_of⟩)
    (cc_lengths_of : PySem.W.codeIn K (cd_lengths_of) "lengths_of" = true)
    (kk_lengths_of : PySem.W.keepIn K (.ref fA_lengths_of) = true)
    (a_d_are_whole : PySem.W.nsIn K mainGlobals "are_whole" = some (some (.ref fA_are_whole)))
    (l_are_whole : K.lookup fA_are_whole = some ⟨oc_are_whole, od_are_whole, .func (PySem.W.fnOf "are_whole" "are_whole" (defArgs st_are_whole) (defBody st_are_whole) (defScope st_are_whole) .none kV_are_whole dc_are_whole pm_are_whole an_are_whole (cd_are_whole) ct_are_whole), sl_are_whole⟩)
    (cc_are_whole : PySem.W.codeIn K (cd_are_whole) "are_whole" = true)
    (kk_are_whole : PySem.W.keepIn K (.ref fA_are_whole) = true)
    (a_d_are_single : PySem.W.nsIn K mainGlobals "are_single" = some (some (.ref fA_are_single)))
    (l_are_single : K.lookup fA_are_single = some ⟨oc_are_single, od_are_single, .func (PySem.W.fnOf "are_single" "are_single" (defArgs st_are_single) (defBody st_are_single) (defScope st_are_single) .none kV_are_single dc_are_single pm_are_single an_are_single (cd_are_single) ct_are_single), sl_are_single⟩)
    (cc_are_single : PySem.W.codeIn K (cd_are_single) "are_single" = true)
    (kk_are_single : PySem.W.keepIn K (.ref fA_are_single) = true)
    (a_d_all_marks : PySem.W.nsIn K mainGlobals "all_marks" = some (some (.ref fA_all_marks)))
    (l_all_marks : K.lookup fA_all_marks = some ⟨oc_all_marks, od_all_marks, .func (PySem.W.fnOf "all_marks" "all_marks" (defArgs st_all_marks) (defBody st_all_marks) (defScope st_all_marks) .none kV_all_marks dc_all_marks pm_all_marks an_all_marks (cd_all_marks) ct_all_marks), sl_all_marks⟩)
    (cc_all_marks : PySem.W.codeIn K (cd_all_marks) "all_marks" = true)
    (kk_all_marks : PySem.W.keepIn K (.ref fA_all_marks) = true)
    (a_d_whole_marks : PySem.W.nsIn K mainGlobals "whole_marks" = some (some (.ref fA_whole_marks)))
    (l_whole_marks : K.lookup fA_whole_marks = some ⟨oc_whole_marks, od_whole_marks, .func (PySem.W.fnOf "whole_marks" "whole_marks" (defArgs st_whole_marks) (defBody st_whole_marks) (defScope st_whole_marks) .none kV_whole_marks dc_whole_marks pm_whole_marks an_whole_marks (cd_whole_marks) ct_whole_marks), sl_whole_marks⟩)
    (cc_whole_marks : PySem.W.codeIn K (cd_whole_marks) "whole_marks" = true)
    (kk_whole_marks : PySem.W.keepIn K (.ref fA_whole_marks) = true)
    (a_d_longest_whole : PySem.W.nsIn K mainGlobals "longest_whole" = some (some (.ref fA_longest_whole)))
    (l_longest_whole : K.lookup fA_longest_whole = some ⟨oc_longest_whole, od_longest_whole, .func (PySem.W.fnOf "longest_whole" "longest_whole" (defArgs st_longest_whole) (defBody st_longest_whole) (defScope st_longest_whole) .none kV_longest_whole dc_longest_whole pm_longest_whole an_longest_whole (cd_longest_whole) ct_longest_whole), sl_longest_whole⟩)
    (cc_longest_whole : PySem.W.codeIn K (cd_longest_whole) "longest_whole" = true)
    (kk_longest_whole : PySem.W.keepIn K (.ref fA_longest_whole) = true)
    (a_d_shortest_single : PySem.W.nsIn K mainGlobals "shortest_single" = some (some (.ref fA_shortest_single)))
    (l_shortest_single : K.lookup fA_shortest_single = some ⟨oc_shortest_single, od_shortest_single, .func (PySem.W.fnOf "shortest_single" "shortest_single" (defArgs st_shortest_single) (defBody st_shortest_single) (defScope st_shortest_single) .none kV_shortest_single dc_shortest_single pm_shortest_single an_shortest_single (cd_shortest_single) ct_shortest_single), sl_shortest_single⟩)
    (cc_shortest_single : PySem.W.codeIn K (cd_shortest_single) "shortest_single" = true)
    (kk_shortest_single : PySem.W.keepIn K (.ref fA_shortest_single) = true)
    (a_d__law_draws : PySem.W.nsIn K mainGlobals "_law_draws" = some (some (.ref fA__law_draws)))
    (l__law_draws : K.lookup fA__law_draws = some ⟨oc__law_draws, od__law_draws, .func (PySem.W.fnOf "_law_draws" "_law_draws" (defArgs st__law_draws) (defBody st__law_draws) (defScope st__law_draws) .none kV__law_draws dc__law_draws pm__law_draws an__law_draws (cd__law_draws) ct__law_draws), sl__law_draws⟩)
    (cc__law_draws : PySem.W.codeIn K (cd__law_draws) "_law_draws" = true)
    (kk__law_draws : PySem.W.keepIn K (.ref fA__law_draws) = true)
    (a_d__law_take : PySem.W.nsIn K mainGlobals "_law_take" = some (some (.ref fA__law_take)))
    (l__law_take : K.lookup fA__law_take = some ⟨oc__law_take, od__law_take, .func (PySem.W.fnOf "_law_take" "_law_take" (defArgs st__law_take) (defBody st__law_take) (defScope st__law_take) .none kV__law_take dc__law_take pm__law_take an__law_take (cd__law_take) ct__law_take), sl__law_take⟩)
    (cc__law_take : PySem.W.codeIn K (cd__law_take) "_law_take" = true)
    (kk__law_take : PySem.W.keepIn K (.ref fA__law_take) = true)
    (a_d__law_same : PySem.W.nsIn K mainGlobals "_law_same" = some (some (.ref fA__law_same)))
    (l__law_same : K.lookup fA__law_same = some ⟨oc__law_same, od__law_same, .func (PySem.W.fnOf "_law_same" "_law_same" (defArgs st__law_same) (defBody st__law_same) (defScope st__law_same) .none kV__law_same dc__law_same pm__law_same an__law_same (cd__law_same) ct__law_same), sl__law_same⟩)
    (cc__law_same : PySem.W.codeIn K (cd__law_same) "_law_same" = true)
    (kk__law_same : PySem.W.keepIn K (.ref fA__law_same) = true)
    (a_d__law_told : PySem.W.nsIn K mainGlobals "_law_told" = some (some (.ref fA__law_told)))
    (l__law_told : K.lookup fA__law_told = some ⟨oc__law_told, od__law_told, .func (PySem.W.fnOf "_law_told" "_law_told" (defArgs st__law_told) (defBody st__law_told) (defScope st__law_told) .none kV__law_told dc__law_told pm__law_told an__law_told (cd__law_told) ct__law_told), sl__law_told⟩)
    (cc__law_told : PySem.W.codeIn K (cd__law_told) "_law_told" = true)
    (kk__law_told : PySem.W.keepIn K (.ref fA__law_told) = true)
    (a_d__law_counts : PySem.W.nsIn K mainGlobals "_law_counts" = some (some (.ref fA__law_counts)))
    (l__law_counts : K.lookup fA__law_counts = some ⟨oc__law_counts, od__law_counts, .func (PySem.W.fnOf "_law_counts" "_law_counts" (defArgs st__law_counts) (defBody st__law_counts) (defScope st__law_counts) .none kV__law_counts dc__law_counts pm__law_counts an__law_counts (cd__law_counts) ct__law_counts), sl__law_counts⟩)
    (cc__law_counts : PySem.W.codeIn K (cd__law_counts) "_law_counts" = true)
    (kk__law_counts : PySem.W.keepIn K (.ref fA__law_counts) = true)
    (a_d__law_judged : PySem.W.nsIn K mainGlobals "_law_judged" = some (some (.ref fA__law_judged)))
    (l__law_judged : K.lookup fA__law_judged = some ⟨oc__law_judged, od__law_judged, .func (PySem.W.fnOf "_law_judged" "_law_judged" (defArgs st__law_judged) (defBody st__law_judged) (defScope st__law_judged) .none kV__law_judged dc__law_judged pm__law_judged an__law_judged (cd__law_judged) ct__law_judged), sl__law_judged⟩)
    (cc__law_judged : PySem.W.codeIn K (cd__law_judged) "_law_judged" = true)
    (kk__law_judged : PySem.W.keepIn K (.ref fA__law_judged) = true)
    (a_d__law_all : PySem.W.nsIn K mainGlobals "_law_all" = some (some (.ref fA__law_all)))
    (l__law_all : K.lookup fA__law_all = some ⟨oc__law_all, od__law_all, .func (PySem.W.fnOf "_law_all" "_law_all" (defArgs st__law_all) (defBody st__law_all) (defScope st__law_all) .none kV__law_all dc__law_all pm__law_all an__law_all (cd__law_all) ct__law_all), sl__law_all⟩)
    (cc__law_all : PySem.W.codeIn K (cd__law_all) "_law_all" = true)
    (kk__law_all : PySem.W.keepIn K (.ref fA__law_all) = true)
    (a_d_law : PySem.W.nsIn K mainGlobals "law" = some (some (.ref fA_law)))
    (l_law : K.lookup fA_law = some ⟨oc_law, od_law, .func (PySem.W.fnOf "law" "law" (defArgs st_law) (defBody st_law) (defScope st_law) .none kV_law dc_law pm_law an_law (cd_law) ct_law), sl_law⟩)
    (cc_law : PySem.W.codeIn K (cd_law) "law" = true)
    (kk_law : PySem.W.keepIn K (.ref fA_law) = true)
    (nt_ : (K.all fun p => match p.2.cls, p.2.data with | .none, .fields vs => vs.size != 0 | _, _ => true) = true) :
    LamX.LawAtS PySem.Challenge.rw_campslaid_k98_whole_marked_poles w K (L2.CX PySem.Challenge.rw_campslaid_k98_whole_marked_poles.prog w) 7 63 "script" mg fa h := by
  have e := hfa.symm.trans (PySem.W.mg_of X G a_d_law)
  cases e
  have F_is_number := fun_mk (st := st_is_number) l_is_number cc_is_number kk_is_number
  have D_is_number : Df K mg "is_number" st_is_number ["value", "least", "most"] _ _ := ⟨F_is_number, PySem.W.mg_of X G a_d_is_number, F_is_number.binds fun _ _ _ _ _ _ us hl => match us, hl with | [_, _, _], _ => rfl⟩
  have F_are_marks := fun_mk (st := st_are_marks) l_are_marks cc_are_marks kk_are_marks
  have D_are_marks : Df K mg "are_marks" st_are_marks ["length", "value"] _ _ := ⟨F_are_marks, PySem.W.mg_of X G a_d_are_marks, F_are_marks.binds fun _ _ _ _ _ _ us hl => match us, hl with | [_, _], _ => rfl⟩
  have F_lengths_of := fun_mk (st := st_lengths_of) l_lengths_of cc_lengths_of kk_lengths_of
  have D_lengths_of : Df K mg "lengths_of" st_lengths_of ["marks"] _ _ := ⟨F_lengths_of, PySem.W.mg_of X G a_d_lengths_of, F_lengths_of.binds fun _ _ _ _ _ _ us hl => match us, hl with | [_], _ => rfl⟩
  have F_are_whole := fun_mk (st := st_are_whole) l_are_whole cc_are_whole kk_are_whole
  have D_are_whole : Df K mg "are_whole" st_are_whole ["marks"] _ _ := ⟨F_are_whole, PySem.W.mg_of X G a_d_are_whole, F_are_whole.binds fun _ _ _ _ _ _ us hl => match us, hl with | [_], _ => rfl⟩
  have F_are_single := fun_mk (st := st_are_single) l_are_single cc_are_single kk_are_single
  have D_are_single : Df K mg "are_single" st_are_single ["marks"] _ _ := ⟨F_are_single, PySem.W.mg_of X G a_d_are_single, F_are_single.binds fun _ _ _ _ _ _ us hl => match us, hl with | [_], _ => rfl⟩
  have F_all_marks := fun_mk (st := st_all_marks) l_all_marks cc_all_marks kk_all_marks
  have D_all_marks : Df K mg "all_marks" st_all_marks ["length", "many"] _ _ := ⟨F_all_marks, PySem.W.mg_of X G a_d_all_marks, F_all_marks.binds fun _ _ _ _ _ _ us hl => match us, hl with | [_, _], _ => rfl⟩
  have F_whole_marks := fun_mk (st := st_whole_marks) l_whole_marks cc_whole_marks kk_whole_marks
  have D_whole_marks : Df K mg "whole_marks" st_whole_marks ["length"] _ _ := ⟨F_whole_marks, PySem.W.mg_of X G a_d_whole_marks, F_whole_marks.binds fun _ _ _ _ _ _ us hl => match us, hl with | [_], _ => rfl⟩
  have F_longest_whole := fun_mk (st := st_longest_whole) l_longest_whole cc_longest_whole kk_longest_whole
  have D_longest_whole : Df K mg "longest_whole" st_longest_whole ["m"] _ _ := ⟨F_longest_whole, PySem.W.mg_of X G a_d_longest_whole, F_longest_whole.binds fun _ _ _ _ _ _ us hl => match us, hl with | [_], _ => rfl⟩
  have F_shortest_single := fun_mk (st := st_shortest_single) l_shortest_single cc_shortest_single kk_shortest_single
  have D_shortest_single : Df K mg "shortest_single" st_shortest_single ["m"] _ _ := ⟨F_shortest_single, PySem.W.mg_of X G a_d_shortest_single, F_shortest_single.binds fun _ _ _ _ _ _ us hl => match us, hl with | [_], _ => rfl⟩
  have F__law_draws := fun_mk (st := st__law_draws) l__law_draws cc__law_draws kk__law_draws
  have D__law_draws : Df K mg "_law_draws" st__law_draws ["script"] _ _ := ⟨F__law_draws, PySem.W.mg_of X G a_d__law_draws, F__law_draws.binds fun _ _ _ _ _ _ us hl => match us, hl with | [_], _ => rfl⟩
  have F__law_take := fun_mk (st := st__law_take) l__law_take cc__law_take kk__law_take
  have D__law_take : Df K mg "_law_take" st__law_take ["draws", "bound"] _ _ := ⟨F__law_take, PySem.W.mg_of X G a_d__law_take, F__law_take.binds fun _ _ _ _ _ _ us hl => match us, hl with | [_, _], _ => rfl⟩
  have F__law_same := fun_mk (st := st__law_same) l__law_same cc__law_same kk__law_same
  have D__law_same : Df K mg "_law_same" st__law_same ["actual", "due"] _ _ := ⟨F__law_same, PySem.W.mg_of X G a_d__law_same, F__law_same.binds fun _ _ _ _ _ _ us hl => match us, hl with | [_, _], _ => rfl⟩
  have F__law_told := fun_mk (st := st__law_told) l__law_told cc__law_told kk__law_told
  have D__law_told : Df K mg "_law_told" st__law_told ["which", "m"] _ _ := ⟨F__law_told, PySem.W.mg_of X G a_d__law_told, F__law_told.binds fun _ _ _ _ _ _ us hl => match us, hl with | [_, _], _ => rfl⟩
  have F__law_counts := fun_mk (st := st__law_counts) l__law_counts cc__law_counts kk__law_counts
  have D__law_counts : Df K mg "_law_counts" st__law_counts ["marks"] _ _ := ⟨F__law_counts, PySem.W.mg_of X G a_d__law_counts, F__law_counts.binds fun _ _ _ _ _ _ us hl => match us, hl with | [_], _ => rfl⟩
  have F__law_judged := fun_mk (st := st__law_judged) l__law_judged cc__law_judged kk__law_judged
  have D__law_judged : Df K mg "_law_judged" st__law_judged ["marks"] _ _ := ⟨F__law_judged, PySem.W.mg_of X G a_d__law_judged, F__law_judged.binds fun _ _ _ _ _ _ us hl => match us, hl with | [_], _ => rfl⟩
  have F__law_all := fun_mk (st := st__law_all) l__law_all cc__law_all kk__law_all
  have D__law_all : Df K mg "_law_all" st__law_all ["length"] _ _ := ⟨F__law_all, PySem.W.mg_of X G a_d__law_all, F__law_all.binds fun _ _ _ _ _ _ us hl => match us, hl with | [_], _ => rfl⟩
  have F_law := fun_mk (st := st_law) l_law cc_law kk_law
  have D_law : Df K mg "law" st_law ["script"] _ _ := ⟨F_law, PySem.W.mg_of X G a_d_law, F_law.binds fun _ _ _ _ _ _ us hl => match us, hl with | [_], _ => rfl⟩
  obtain ⟨c_are_marks, Q_are_marks, ec_are_marks, T_are_marks⟩ := tab_of X TB D_are_marks (by decide +kernel) nt_
  obtain ⟨c_are_whole, Q_are_whole, ec_are_whole, T_are_whole⟩ := tab_of X TB D_are_whole (by decide +kernel) nt_
  obtain ⟨c_are_single, Q_are_single, ec_are_single, T_are_single⟩ := tab_of X TB D_are_single (by decide +kernel) nt_
  obtain ⟨c_longest_whole, Q_longest_whole, ec_longest_whole, T_longest_whole⟩ := tab_of X TB D_longest_whole (by decide +kernel) nt_
  obtain ⟨c_shortest_single, Q_shortest_single, ec_shortest_single, T_shortest_single⟩ := tab_of X TB D_shortest_single (by decide +kernel) nt_
  refine ⟨PySem.W.fnOf "law" "law" (defArgs st_law) (defBody st_law) (defScope st_law) .none kV_law dc_law pm_law an_law cd_law ct_law, [(c_are_marks, Q_are_marks), (c_are_whole, Q_are_whole), (c_are_single, Q_are_single), (c_longest_whole, Q_longest_whole), (c_shortest_single, Q_shortest_single)], spLaw ⟨K, mg, fun b => ∃ p ∈ ([(c_are_marks, Q_are_marks), (c_are_whole, Q_are_whole), (c_are_single, Q_are_single), (c_longest_whole, Q_longest_whole), (c_shortest_single, Q_shortest_single)] : List (Addr × Addr)), b = p.2⟩ (LawTrue 1 20 f_law0 f_law), ?_, ?_, ?_, fun s u => .of_eq rfl, ?_, fun base hK hG hTB => ?_⟩
  · intro p hp
    simp only [List.mem_cons, List.not_mem_nil, or_false] at hp
    rcases hp with rfl | rfl | rfl | rfl | rfl
    · exact T_are_marks.1
    · exact T_are_whole.1
    · exact T_are_single.1
    · exact T_longest_whole.1
    · exact T_shortest_single.1
  · intro p hp
    simp only [List.mem_cons, List.not_mem_nil, or_false] at hp
    rcases hp with rfl | rfl | rfl | rfl | rfl
    · exact T_are_marks.2.2
    · exact T_are_whole.2.2
    · exact T_are_single.2.2
    · exact T_longest_whole.2.2
    · exact T_shortest_single.2.2
  · intro p hp
    simp only [List.mem_cons, List.not_mem_nil, or_false] at hp
    rcases hp with rfl | rfl | rfl | rfl | rfl
    · exact T_are_marks.2.1
    · exact T_are_whole.2.1
    · exact T_are_single.2.1
    · exact T_longest_whole.2.1
    · exact T_shortest_single.2.1
  · intro H a ns hl hb ht hS
    exact ⟨a, ns, rfl, hS, fun b ⟨p, hp, e⟩ => ⟨#[], by rw [e]; exact ht p hp, trivial⟩, K98.math_ok ns hl hb, fun _ => rfl⟩
  · refine k_law (base := base) (a_CampError := a_CampError) (a_OutOfRange := a_OutOfRange) ?_ D_law
    exact {
      b_abs := PySem.W.mg_none_of X G nb_abs
      b_all := PySem.W.mg_none_of X G nb_all
      b_any := PySem.W.mg_none_of X G nb_any
      b_bool := PySem.W.mg_none_of X G nb_bool
      b_enumerate := PySem.W.mg_none_of X G nb_enumerate
      b_int := PySem.W.mg_none_of X G nb_int
      b_isinstance := PySem.W.mg_none_of X G nb_isinstance
      b_len := PySem.W.mg_none_of X G nb_len
      b_list := PySem.W.mg_none_of X G nb_list
      b_max := PySem.W.mg_none_of X G nb_max
      b_min := PySem.W.mg_none_of X G nb_min
      b_range := PySem.W.mg_none_of X G nb_range
      b_reversed := PySem.W.mg_none_of X G nb_reversed
      b_sorted := PySem.W.mg_none_of X G nb_sorted
      b_str := PySem.W.mg_none_of X G nb_str
      b_tuple := PySem.W.mg_none_of X G nb_tuple
      c_MOST_LENGTH := ⟨_, PySem.W.mg_of X G nc_MOST_LENGTH⟩
      x_OutOfRange := ⟨PySem.W.mg_of X G ne_OutOfRange, PySem.F.excBase_ValueError, q_OutOfRange, kp_OutOfRange, sb_OutOfRange, ty_OutOfRange⟩
      xc_OutOfRange := ⟨hg_OutOfRange, hk_OutOfRange, sb_OutOfRange, hd_OutOfRange, ha_OutOfRange, hn_, ht_, hm_OutOfRange⟩
      xk_OutOfRange := if_pos (beq_self_eq_true _)
      xm_OutOfRange_CampError := PySem.W.exm_ref sb_CampError hd_CampError ty_CampError sx_OutOfRange_CampError
      xg_CampError := PySem.W.mg_of X G ne_CampError
      d_is_number := ⟨_, _, D_is_number⟩
      d_are_marks := ⟨_, _, _, _, D_are_marks, ec_are_marks, tabB_of (hTB (c_are_marks, Q_are_marks) (by simp)), ⟨(c_are_marks, Q_are_marks), by simp, rfl⟩⟩
      d_lengths_of := ⟨_, _, D_lengths_of⟩
      d_are_whole := ⟨_, _, _, _, D_are_whole, ec_are_whole, tabB_of (hTB (c_are_whole, Q_are_whole) (by simp)), ⟨(c_are_whole, Q_are_whole), by simp, rfl⟩⟩
      d_are_single := ⟨_, _, _, _, D_are_single, ec_are_single, tabB_of (hTB (c_are_single, Q_are_single) (by simp)), ⟨(c_are_single, Q_are_single), by simp, rfl⟩⟩
      d_all_marks := ⟨_, _, D_all_marks⟩
      d_whole_marks := ⟨_, _, D_whole_marks⟩
      d_longest_whole := ⟨_, _, _, _, D_longest_whole, ec_longest_whole, tabB_of (hTB (c_longest_whole, Q_longest_whole) (by simp)), ⟨(c_longest_whole, Q_longest_whole), by simp, rfl⟩⟩
      d_shortest_single := ⟨_, _, _, _, D_shortest_single, ec_shortest_single, tabB_of (hTB (c_shortest_single, Q_shortest_single) (by simp)), ⟨(c_shortest_single, Q_shortest_single), by simp, rfl⟩⟩
      d__law_draws := ⟨_, _, D__law_draws⟩
      d__law_take := ⟨_, _, D__law_take⟩
      d__law_same := ⟨_, _, D__law_same⟩
      d__law_told := ⟨_, _, D__law_told⟩
      d__law_counts := ⟨_, _, D__law_counts⟩
      d__law_judged := ⟨_, _, D__law_judged⟩
      d__law_all := ⟨_, _, D__law_all⟩
    }
end K98
open PySem PySem.W PyProof.Rows
set_option maxRecDepth 100000 in
set_option maxHeartbeats 0 in
theorem PySem.Challenge.cw_campslaid_k98_whole_marked_poles_holds : PySem.Challenge.rw_campslaid_k98_whole_marked_poles.Holds := by
  w_on; o_law; k_head; (case hw => w_witness2)
  k_fill
  refine DL.walk_all (l := PySem.Challenge.rw_campslaid_k98_whole_marked_poles) (n := 63) (k := 7) (x := "script") rfl (by decide) rfl ⟨rfl, by decide, by decide⟩ (fun w h Y => PySem.W.kIn_of Y) ?F
  case F =>
    intro w mg fa h Y KX G hmg TB
    refine' K98.all_mk KX G hmg TB ?nb_abs ?nb_all ?nb_any ?nb_bool ?nb_enumerate ?nb_int ?nb_isinstance ?nb_len ?nb_list ?nb_max ?nb_min ?nb_range ?nb_reversed ?nb_sorted ?nb_str ?nb_tuple ?nc_MOST_LENGTH ?ne_CampError ?sb_CampError ?ty_CampError ?hd_CampError ?ne_OutOfRange ?sb_OutOfRange ?ty_OutOfRange ?hd_OutOfRange ?q_OutOfRange ?kp_OutOfRange ?hg_OutOfRange ?hk_OutOfRange ?ha_OutOfRange ?hm_OutOfRange ?sx_OutOfRange_CampError ?hn_ ?ht_ ?a_d_is_number ?l_is_number ?cc_is_number ?kk_is_number ?a_d_are_marks ?l_are_marks ?cc_are_marks ?kk_are_marks ?a_d_lengths_of ?l_lengths_of ?cc_lengths_of ?kk_lengths_of ?a_d_are_whole ?l_are_whole ?cc_are_whole ?kk_are_whole ?a_d_are_single ?l_are_single ?cc_are_single ?kk_are_single ?a_d_all_marks ?l_all_marks ?cc_all_marks ?kk_all_marks ?a_d_whole_marks ?l_whole_marks ?cc_whole_marks ?kk_whole_marks ?a_d_longest_whole ?l_longest_whole ?cc_longest_whole ?kk_longest_whole ?a_d_shortest_single ?l_shortest_single ?cc_shortest_single ?kk_shortest_single ?a_d__law_draws ?l__law_draws ?cc__law_draws ?kk__law_draws ?a_d__law_take ?l__law_take ?cc__law_take ?kk__law_take ?a_d__law_same ?l__law_same ?cc__law_same ?kk__law_same ?a_d__law_told ?l__law_told ?cc__law_told ?kk__law_told ?a_d__law_counts ?l__law_counts ?cc__law_counts ?kk__law_counts ?a_d__law_judged ?l__law_judged ?cc__law_judged ?kk__law_judged ?a_d__law_all ?l__law_all ?cc__law_all ?kk__law_all ?a_d_law ?l_law ?cc_law ?kk_law ?nt_
    (case nb_abs => k_is)
    (case nb_all => k_is)
    (case nb_any => k_is)
    (case nb_bool => k_is)
    (case nb_enumerate => k_is)
    (case nb_int => k_is)
    (case nb_isinstance => k_is)
    (case nb_len => k_is)
    (case nb_list => k_is)
    (case nb_max => k_is)
    (case nb_min => k_is)
    (case nb_range => k_is)
    (case nb_reversed => k_is)
    (case nb_sorted => k_is)
    (case nb_str => k_is)
    (case nb_tuple => k_is)
    (case nc_MOST_LENGTH => k_is)
    (case ne_CampError => k_is)
    (case sb_CampError => k_is)
    (case ty_CampError => k_is)
    (case hd_CampError => k_is)
    (case ne_OutOfRange => k_is)
    (case sb_OutOfRange => k_is)
    (case ty_OutOfRange => k_is)
    (case hd_OutOfRange => k_is)
    (case q_OutOfRange => k_exc)
    (case kp_OutOfRange => k_is)
    (case hg_OutOfRange => k_is)
    (case hk_OutOfRange => k_is)
    (case ha_OutOfRange => k_is)
    (case hm_OutOfRange => k_is)
    (case sx_OutOfRange_CampError => first | rfl | k_is)
    (case hn_ => k_is)
    (case ht_ => k_is)
    (case a_d_is_number => k_is)
    (case l_is_number => k_is)
    (case cc_is_number => k_is)
    (case kk_is_number => k_is)
    (case a_d_are_marks => k_is)
    (case l_are_marks => k_is)
    (case cc_are_marks => k_is)
    (case kk_are_marks => k_is)
    (case a_d_lengths_of => k_is)
    (case l_lengths_of => k_is)
    (case cc_lengths_of => k_is)
    (case kk_lengths_of => k_is)
    (case a_d_are_whole => k_is)
    (case l_are_whole => k_is)
    (case cc_are_whole => k_is)
    (case kk_are_whole => k_is)
    (case a_d_are_single => k_is)
    (case l_are_single => k_is)
    (case cc_are_single => k_is)
    (case kk_are_single => k_is)
    (case a_d_all_marks => k_is)
    (case l_all_marks => k_is)
    (case cc_all_marks => k_is)
    (case kk_all_marks => k_is)
    (case a_d_whole_marks => k_is)
    (case l_whole_marks => k_is)
    (case cc_whole_marks => k_is)
    (case kk_whole_marks => k_is)
    (case a_d_longest_whole => k_is)
    (case l_longest_whole => k_is)
    (case cc_longest_whole => k_is)
    (case kk_longest_whole => k_is)
    (case a_d_shortest_single => k_is)
    (case l_shortest_single => k_is)
    (case cc_shortest_single => k_is)
    (case kk_shortest_single => k_is)
    (case a_d__law_draws => k_is)
    (case l__law_draws => k_is)
    (case cc__law_draws => k_is)
    (case kk__law_draws => k_is)
    (case a_d__law_take => k_is)
    (case l__law_take => k_is)
    (case cc__law_take => k_is)
    (case kk__law_take => k_is)
    (case a_d__law_same => k_is)
    (case l__law_same => k_is)
    (case cc__law_same => k_is)
    (case kk__law_same => k_is)
    (case a_d__law_told => k_is)
    (case l__law_told => k_is)
    (case cc__law_told => k_is)
    (case kk__law_told => k_is)
    (case a_d__law_counts => k_is)
    (case l__law_counts => k_is)
    (case cc__law_counts => k_is)
    (case kk__law_counts => k_is)
    (case a_d__law_judged => k_is)
    (case l__law_judged => k_is)
    (case cc__law_judged => k_is)
    (case kk__law_judged => k_is)
    (case a_d__law_all => k_is)
    (case l__law_all => k_is)
    (case cc__law_all => k_is)
    (case kk__law_all => k_is)
    (case a_d_law => k_is)
    (case l_law => k_is)
    (case cc_law => k_is)
    (case kk_law => k_is)
    (case nt_ => kernel_rfl)

