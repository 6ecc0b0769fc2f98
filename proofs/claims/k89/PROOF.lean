import PyProof.Rows.All
import Wide.All
import OpenK.AllK
import Wide.FinOn
import HandS.ForMost
import HandS.ForExc
import HandS.TupAny
import HandS.TupMul
import HandS.EndOwn
import HandS.Flow
import HandS.Style
import HandS.Walk
import HandS.IsInst
import HandS.Deep
import HandS.TupLe
import HandS.Wide
import HandS.Gcd
import HandS.AnyAll
import KE.DataEq
import KE.DataCmp
import KE.DataMinMax
import KE.DataFind
import KE.SortData
import KE.SortLaws
import HandS.SortInts
import HandS.Conv
import HandS.TupLen
import KE.DataIsa
import HandS.ExcCtx
import HandS.Iter
import HandS.Rev
import HandS.Star
import KE.GoesEnum
import HandS.ExcIs
import HandS.ExcOwn
import KE.KUnpack
import HandS.HotCalls
import KE.DatumIndex
import KE.Datum
import KE.RegKIsAll
import PySem.Challenge.RW_campslaid_k89_whole_tackles_that_lift
set_option Elab.async false
set_option linter.all false
set_option maxRecDepth 100000
set_option maxHeartbeats 2000000
/-! DT0: tuples that are new, with no dict of their own: known to the object -/
namespace DT
open PySem PySem.Spec PySem.SeqAt L2 PyProof.Rows
def NT (xs : List V) (o : HO) : Prop := ∃ ob : Obj, ob.dict = none ∧ ob.cls = .type "tuple" ∧ o = .frz ob (.tup xs)
def SqD (K : PySem.W.Frag) (H : Hp) (a : Addr) (xs : List V) : Prop :=
  (∃ o, H a = some o ∧ NT xs o) ∨ ∃ (o : Obj) (its : Array Value) (n : Nat), K.lookup a = some o ∧ o.cls = .type "tuple" ∧ o.dict = none ∧ o.data = .seq its n ∧ its.size ≤ sizeLine ∧ Vals xs its.toList
theorem SqD.t {K : PySem.W.Frag} {H : Hp} {a : Addr} {xs : List V} (h : SqD K H a xs) : SqT K H a xs := by
  rcases h with ⟨o, e, ob, _, _, rfl⟩ | ⟨o, its, n, h1, h2, _, h4, h5, h6⟩
  · exact .inl (.inr ⟨ob, e⟩)
  · exact .inr ⟨o, its, n, h1, h2, h4, h5, h6⟩
theorem NT.notbl {xs : List V} {o : HO} (h : NT xs o) : ∀ ps, o ≠ .tbl ps := by
  obtain ⟨ob, _, _, rfl⟩ := h
  intro ps z; cases z
section
variable {X : Cx} {pins : List (Addr × Obj)} {σ : L2.St} {H : Hp} {s : Shared}
/-- its object is a tuple's, with no dict -/
theorem SqD.obj {a : Addr} {xs : List V} (I : Inv X pins σ H s) (h : SqD X.K H a xs) : ∃ ob, s.heap.get? a = some ob ∧ ob.dict = none ∧ ob.cls = .type "tuple" := by
  rcases h with ⟨o, e, ob, h1, h2, rfl⟩ | ⟨o, its, n, h1, h2, h3, _⟩
  · exact ⟨ob, (I.hok a _ e).1, h1, h2⟩
  · exact ⟨o, I.kIn a o h1, h3, h2⟩
/-- a tuple laid at the heap's end -/
theorem laidN {xs : List V} {us : List Value} (I : Inv X pins σ H s) (r : Vals xs us) (z : xs.length ≤ sizeLine) :
    ∃ o, NT xs o ∧ Inv X pins σ (upd H s.heap.objs.size o) { s with heap := s.heap.push { cls := .type "tuple", data := .seq us.toArray } } := by
  have g : (s.heap.push { cls := .type "tuple", data := .seq us.toArray }).get? s.heap.objs.size = some { cls := .type "tuple", data := .seq us.toArray } := Heap.get?_push_size _ rfl
  refine ⟨.frz { cls := .type "tuple", data := .seq us.toArray } (.tup xs), ⟨_, rfl, rfl, rfl⟩, I.laid (t' := s.toks) (fun _ _ e => Heap.get?_push_of_some _ e) (Nat.le_refl _) ?_⟩
  exact ⟨g, z, us, r, ⟨_, g, rfl, _, rfl⟩⟩
theorem laidQ {xs : List V} {us : List Value} {Q : VK} (I : Inv X pins σ H s) (r : Vals xs us) (z : xs.length ≤ sizeLine) (q : ∀ p o, H p = none → NT xs o → Q (.ref p) (upd H p o)) :
    EP X pins σ Q (.ref s.heap.objs.size) { s with heap := s.heap.push { cls := .type "tuple", data := .seq us.toArray } } := by
  obtain ⟨o, n, I2⟩ := laidN I r z
  exact ⟨.ref s.heap.objs.size, _, I2, rfl, q _ o (I.hok.fresh (Nat.le_refl _)) n⟩
variable {es : List Expr} {t : TA} {pos : Pos}
def tTupN (t : TA) : TE := fun σ H Q => t σ H fun xs H1 => xs.length ≤ sizeLine ∧ ∀ p o, H1 p = none → NT xs o → Q (.ref p) (upd H1 p o)
theorem pe_tupN {x1} (h : PA X es t) : PE X (.Tuple es x1 pos) (tTupN t) := ⟨fun pins s σ H Q I hq =>
  wpAny_Tuple_spliced (thn (h.run pos pins s σ H _ I hq) fun us s1 ⟨xs, H1, I1, r, z, q⟩ => ⟨by rw [← r.length]; exact z, laidQ I1 r z q⟩)⟩
def rCatN (K : PySem.W.Frag) : R2 := fun x y H Q => ∃ a b xs ys, x = .ref a ∧ y = .ref b ∧ SqT K H a xs ∧ SqT K H b ys ∧ xs.length + ys.length ≤ sizeLine ∧
  (xs = [] → Q (.ref b) H) ∧ (ys = [] → Q (.ref a) H) ∧ ∀ p o, H p = none → NT (xs ++ ys) o → Q (.ref p) (upd H p o)
theorem op_catN : OpR X (binaryOp .Add) (rCatN X.K) := by
  intro pins s σ H x y v u Q I rx ry ⟨a, b, xs, ys, ex, ey, ha, hb, hz, q0, q1, q2⟩
  subst ex ey
  cases rx
  cases ry
  obtain ⟨is, r1, p1, _⟩ := I.tuple ha
  obtain ⟨js, r2, p2, _⟩ := I.tuple hb
  by_cases hx : xs = []
  · subst hx
    cases r1
    exact cat_tup0 p1 p2 ⟨.ref b, H, I, rfl, q0 rfl⟩
  · exact HT.cat_tup p1 p2 (fun z => hx (r1.nil_iff.mp z)) (fun z => ⟨.ref a, H, I, rfl, q1 (r2.nil_iff.mp z)⟩)
      (fun _ => laidQ I (r1.append r2) (by rw [List.length_append]; exact hz) q2) (by rw [← r1.length, ← r2.length]; exact hz)
def rSlN (K : PySem.W.Frag) : V → Option Int → Option Int → Hp → VK → Prop := fun x lo hi H Q => ∃ a xs, x = .ref a ∧ SqT K H a xs ∧
  (HT.sIx xs.length 0 lo = 0 ∧ HT.sIx xs.length xs.length hi = xs.length → Q (.ref a) H) ∧ ∀ p o, H p = none → NT (cutV xs lo hi) o → Q (.ref p) (upd H p o)
theorem sl_tupN : SlR X (rSlN X.K) := by
  intro pins s σ H x v vl vu lo hi sl Q I rx hs pl pu ⟨a, xs, ex, hx, q1, q2⟩
  subst ex
  by_cases hw : HT.sIx xs.length 0 lo = 0 ∧ HT.sIx xs.length xs.length hi = xs.length
  · exact sl_tupA pins s σ H _ v vl vu lo hi sl Q I rx hs pl pu ⟨a, xs, rfl, hx, q1, fun z => absurd hw z⟩
  · cases rx
    obtain ⟨is, r, ht, hz⟩ := I.tuple hx
    have hl : is.toArray.size = xs.length := by rw [List.size_toArray, r.length]
    refine ⟨"tuple", _, PyProof.Rows.slot_tuple_getitem.lookup, ht.typeIs, HT.getItem_tuple_cut ht hs pl pu (by rw [hl]; exact hw) ?_ (by rw [hl]; exact hz)⟩
    rw [hl]
    exact laidQ I ((r.drop _).take _) (Nat.le_trans (cutV_length xs lo hi) hz) q2
theorem call_tupN : CallR X (.type "tuple") (fun xs H Q => ∃ p ys, xs = [.ref p] ∧ ((SqL X.K H p ys ∧ ∀ l o, H l = none → NT ys o → Q (.ref l) (upd H l o)) ∨ (SqT X.K H p ys ∧ Q (.ref p) H))) := by
  intro pins s σ H xs us Q I r ⟨p, ys, ex, h⟩
  subst ex
  obtain ⟨u, eu, rx⟩ := vals1 r
  subst eu
  cases rx
  rcases h with ⟨hq, q⟩ | ⟨hq, q⟩
  · obtain ⟨is, r2, pl, hz⟩ := I.list hq
    refine call_tuple_list pl.isList (fun h' kp => ?_) (by rw [List.size_toArray, ← r2.length]; exact hz)
    exact laidQ (I.kept (t' := s.toks) kp) r2 hz q
  · obtain ⟨is, r2, pl, hz⟩ := I.tuple hq
    exact call_tuple_same pl ⟨.ref p, H, I, rfl, q⟩
def rRepN (K : PySem.W.Frag) : R2 := fun x y H Q => ∃ l k xs, x = .ref l ∧ y = .int k ∧ SqT K H l xs ∧ xs ≠ [] ∧ 2 ≤ k ∧ k ≤ 1000 ∧ xs.length ≤ 1000 ∧ ∀ p o, H p = none → NT (List.replicate k.toNat xs).flatten o → Q (.ref p) (upd H p o)
theorem op_repN : OpR X (binaryOp .Mult) (rRepN X.K) := by
  intro pins s σ H x y v u Q I rx ry ⟨l, k, xs, ex, ey, hT, hne, h1, h2, hz, q⟩
  subst ex ey
  cases rx
  obtain ⟨t, et⟩ := ry
  subst et
  obtain ⟨is, r, ⟨⟨cls, dd, data, sl⟩, ho, hc, n, hd⟩, hs⟩ := I.tuple hT
  simp only at hc hd
  subst hc hd
  have hl := r.length
  have hn : is ≠ [] := fun e => hne (List.eq_nil_of_length_eq_zero (by rw [hl, e] <;> rfl))
  have em : is.toArray.isEmpty = false := by cases is with | nil => exact absurd rfl hn | cons _ _ => rfl
  have sz : is.toArray.size = xs.length := by rw [List.size_toArray, hl]
  have up : k.toNat * xs.length ≤ 1000 * 1000 := Nat.mul_le_mul (by omega) hz
  have upI : ((is.toArray.size : Nat) : Int) * k ≤ 1000000 := by
    rw [sz]
    have e : (xs.length : Int) * k ≤ 1000 * k := Int.mul_le_mul_of_nonneg_right (by omega) (by omega)
    omega
  have fl : (List.replicate k.toNat is).flatten.length ≤ sizeLine := by
    rw [PyProof.Rows.lm_len_rep_flat, ← hl, sizeLine_eq]; omega
  have a0 : (decide (k < -(2 ^ 63)) || decide (k ≥ 2 ^ 63)) = false := by rw [decide_eq_false (by omega), decide_eq_false (by omega)] <;> rfl
  have a1 : (is.toArray.isEmpty || k == 1) = false := by rw [em, Bool.false_or]; exact beq_eq_false_iff_ne.mpr (by omega)
  have a2 : (decide (k ≤ 0) || is.toArray.isEmpty) = false := by rw [em, Bool.or_false]; exact decide_eq_false (by omega)
  have a4 : Builtin.Tuple.tupleTooMany (((is.toArray.size : Nat) : Int) * k) = false := by
    show decide _ = false
    rw [sizeLine_eq]; exact decide_eq_false (by omega)
  have ty : s.TypeIs (.ref l) "tuple" := ⟨_, ho, rfl⟩
  refine wpAny_binaryOp_repeat_ref (T := "tuple") (U := "int") (by decide) ty (fun z => typeIs_int z k t) noFill_tuple_mul PySem.F.fills_int_mul PySem.F.slot_int_rmul repeat_tuple PySem.F.slot_int_index.lookup
    (call_meets PySem.F.slot_int_rmul (typeIs_int s k t) PySem.F.entry_int_rmul (PySem.F.args_int_rmul_2 _ _) (int_rmul_tuple k t l is.toArray n dd sl)
      ⟨ho, rfl, ty, call_meets PySem.F.slot_tuple_mul ty PySem.F.entry_tuple_mul (PySem.F.args_tuple_mul_2 _ _) (tuple_mulW l is.toArray n dd sl k t a0 a1 a2 (by omega) a4 (by rw [size_rep, List.size_toArray]; exact fl)) ⟨ho, ?_⟩⟩)
  rw [size_rep]
  exact laidQ I (r.rep k.toNat) (by rw [PyProof.Rows.lm_len_rep_flat, sizeLine_eq]; omega) q
theorem tuple_mul1 (l : Addr) (items : Array Value) (n : Nat) (dd : Option Addr) (sl : Array (Option Value)) (u : Tok) :
    Meets (Builtin.«tuple.__mul__» ⟨[.ref l, .int 1 u], []⟩) (fun _ R s => s.heap.get? l = some { cls := .type "tuple", dict := dd, data := .seq items n, slots := sl } ∧ R (.ok (.ret (Value.ref l))) s) :=
  .of_wp fun prog w A R s h => by
    obtain ⟨hp, g, d, tk, os⟩ := s
    obtain ⟨hl, h⟩ := h
    have f1 := AutoSeq1.idx_int
    have c0 : (decide ((1 : Int) < -(2 ^ 63)) || decide ((1 : Int) ≥ 2 ^ 63)) = false := by decide
    have c1 : (items.isEmpty || (1 : Int) == 1) = true := by simp
    wp_walk using wpAny_loadPart' hl
    exact ⟨_, rfl, h⟩
def rRep1 (K : PySem.W.Frag) : R2 := fun x y H Q => ∃ l xs, x = .ref l ∧ y = .int 1 ∧ SqT K H l xs ∧ Q (.ref l) H
theorem op_rep1 : OpR X (binaryOp .Mult) (rRep1 X.K) := by
  intro pins s σ H x y v u Q I rx ry ⟨l, xs, ex, ey, hT, q⟩
  subst ex ey
  cases rx
  obtain ⟨t, et⟩ := ry
  subst et
  obtain ⟨is, r, ⟨⟨cls, dd, data, sl⟩, ho, hc, n, hd⟩, hs⟩ := I.tuple hT
  simp only at hc hd
  subst hc hd
  have ty : s.TypeIs (.ref l) "tuple" := ⟨_, ho, rfl⟩
  exact wpAny_binaryOp_repeat_ref (T := "tuple") (U := "int") (by decide) ty (fun z => typeIs_int z 1 t) noFill_tuple_mul PySem.F.fills_int_mul PySem.F.slot_int_rmul repeat_tuple PySem.F.slot_int_index.lookup
    (call_meets PySem.F.slot_int_rmul (typeIs_int s 1 t) PySem.F.entry_int_rmul (PySem.F.args_int_rmul_2 _ _) (int_rmul_tuple 1 t l is.toArray n dd sl)
      ⟨ho, rfl, ty, call_meets PySem.F.slot_tuple_mul ty PySem.F.entry_tuple_mul (PySem.F.args_tuple_mul_2 _ _) (tuple_mul1 l is.toArray n dd sl t) ⟨ho, ⟨.ref l, H, I, rfl, q⟩⟩⟩)
end
end DT

set_option Elab.async false
set_option linter.all false
set_option maxRecDepth 100000
set_option maxHeartbeats 2000000
/-! DL: a layer of plain data over the hand layer. Values are PyData; a def is a Lean function over them. -/
namespace DL
open PySem L2 DT

abbrev D := PyData
/-- the cells of the one list of draws that the law hands about -/
abbrev Wd := List D

/-- what a piece of the program gives: a value, an exception of the class so named, or nothing that is known -/
inductive R (α : Type) where
  | ok (a : α) (w : Wd)
  | exc (c : Str) (w : Wd)
  | bad

/-- what a slot holds: data; a list that this frame alone holds; a dict that this frame alone holds; the draws; the script -/
inductive Sl where
  | v (d : D)
  | ol (ds : List D)
  | od (kvs : List (D × D))
  | dr
  | sc (ns : List Int)

abbrev Ev := List (Option Sl)
abbrev Ef := Ev → Wd → R D

def R.bind {α β : Type} (r : R α) (f : α → Wd → R β) : R β :=
  match r with
  | .ok a w => f a w
  | .exc c w => .exc c w
  | .bad => .bad

def keyD : Key → D
  | .inl i => .int i
  | .inr x => .str x

mutual
inductive Rep (K : PySem.W.Frag) (F : Hp) : V → D → Prop
  | non : Rep K F .non .none
  | bl (b : Bool) : Rep K F (.bl b) (.bool b)
  | int (i : Int) : Rep K F (.int i) (.int i)
  | str (x : Str) : Rep K F (.str x) (.str x)
  | lst {a : Addr} {xs : List V} {ds : List D} : F a = some (.lst xs) → RepL K F xs ds → Rep K F (.ref a) (.list ds)
  | tup {a : Addr} {xs : List V} {ds : List D} : SqD K F a xs → RepL K F xs ds → Rep K F (.ref a) (.tuple ds)
  | dK {a : Addr} {o : Obj} {kvs : List (Key × V)} {ds : List D} : F a = some (.frz o (.dK kvs)) → RepL K F (kvs.map (·.2)) ds → Rep K F (.ref a) (.dict ((kvs.map fun p => keyD p.1).zip ds))
inductive RepL (K : PySem.W.Frag) (F : Hp) : List V → List D → Prop
  | nil : RepL K F [] []
  | cons {v : V} {vs : List V} {d : D} {ds : List D} : Rep K F v d → RepL K F vs ds → RepL K F (v :: vs) (d :: ds)
end

section
variable {K : PySem.W.Frag} {F F' H : Hp}
theorem sqL_mono (h : ∀ a o, F a = some o → F' a = some o) {a : Addr} {xs : List V} (q : SqL K F a xs) : SqL K F' a xs := by
  rcases q with (q | ⟨o, q⟩) | q
  · exact .inl (.inl (h _ _ q))
  · exact .inl (.inr ⟨o, h _ _ q⟩)
  · exact .inr q
theorem sqT_mono (h : ∀ a o, F a = some o → F' a = some o) {a : Addr} {xs : List V} (q : SqT K F a xs) : SqT K F' a xs := by
  rcases q with (q | ⟨o, q⟩) | q
  · exact .inl (.inl (h _ _ q))
  · exact .inl (.inr ⟨o, h _ _ q⟩)
  · exact .inr q
theorem sqD_mono (h : ∀ a o, F a = some o → F' a = some o) {a : Addr} {xs : List V} (q : SqD K F a xs) : SqD K F' a xs := by
  rcases q with ⟨o, e, n⟩ | q
  · exact .inl ⟨o, h _ _ e, n⟩
  · exact .inr q
mutual
theorem Rep.mono (h : ∀ a o, F a = some o → F' a = some o) : ∀ {v : V} {d : D}, Rep K F v d → Rep K F' v d
  | _, _, .non => .non
  | _, _, .bl b => .bl b
  | _, _, .int i => .int i
  | _, _, .str x => .str x
  | _, _, .lst e r => .lst (h _ _ e) (RepL.mono h r)
  | _, _, .tup e r => .tup (sqD_mono h e) (RepL.mono h r)
  | _, _, .dK e r => .dK (h _ _ e) (RepL.mono h r)
theorem RepL.mono (h : ∀ a o, F a = some o → F' a = some o) : ∀ {vs : List V} {ds : List D}, RepL K F vs ds → RepL K F' vs ds
  | _, _, .nil => .nil
  | _, _, .cons r t => .cons (Rep.mono h r) (RepL.mono h t)
end
theorem RepL.length : ∀ {vs : List V} {ds : List D}, RepL K F vs ds → vs.length = ds.length
  | _, _, .nil => rfl
  | _, _, .cons _ t => congrArg (· + 1) (RepL.length t)
theorem RepL.get : ∀ {vs : List V} {ds : List D} (i : Nat) {d : D}, RepL K F vs ds → ds[i]? = some d → ∃ v, vs[i]? = some v ∧ Rep K F v d
  | _, _, _, _, .nil, e => by simp at e
  | _, _, 0, _, .cons r _, e => by simp at e; subst e; exact ⟨_, rfl, r⟩
  | _, _, i + 1, d, .cons _ t, e => by
    obtain ⟨v, h1, h2⟩ := RepL.get i t (by simpa using e)
    exact ⟨v, by simpa using h1, h2⟩
theorem RepL.at : ∀ {vs : List V} {ds : List D} (i : Nat) {v : V}, RepL K F vs ds → vs[i]? = some v → ∃ d, ds[i]? = some d ∧ Rep K F v d
  | _, _, _, _, .nil, e => by simp at e
  | _, _, 0, _, .cons r _, e => by simp at e; subst e; exact ⟨_, rfl, r⟩
  | _, _, i + 1, d, .cons _ t, e => by
    obtain ⟨v, h1, h2⟩ := RepL.at i t (by simpa using e)
    exact ⟨v, by simpa using h1, h2⟩
theorem RepL.append : ∀ {vs us : List V} {ds es : List D}, RepL K F vs ds → RepL K F us es → RepL K F (vs ++ us) (ds ++ es)
  | _, _, _, _, .nil, s => s
  | _, _, _, _, .cons r t, s => .cons r (RepL.append t s)
theorem RepL.one {v : V} {d : D} (h : Rep K F v d) : RepL K F [v] [d] := .cons h .nil
theorem RepL.snoc {vs : List V} {ds : List D} {v : V} {d : D} (h : RepL K F vs ds) (h' : Rep K F v d) : RepL K F (vs ++ [v]) (ds ++ [d]) := h.append (.one h')
theorem RepL.take : ∀ {vs : List V} {ds : List D} (n : Nat), RepL K F vs ds → RepL K F (vs.take n) (ds.take n)
  | _, _, 0, _ => by simp; exact .nil
  | _, _, _ + 1, .nil => .nil
  | _, _, n + 1, .cons r t => .cons r (RepL.take n t)
theorem RepL.drop : ∀ {vs : List V} {ds : List D} (n : Nat), RepL K F vs ds → RepL K F (vs.drop n) (ds.drop n)
  | _, _, 0, r => by simpa using r
  | _, _, _ + 1, .nil => .nil
  | _, _, n + 1, .cons _ t => RepL.drop n t
theorem RepL.set : ∀ {vs : List V} {ds : List D} (n : Nat) {v : V} {d : D}, RepL K F vs ds → Rep K F v d → RepL K F (vs.set n v) (ds.set n d)
  | _, _, _, _, _, .nil, _ => .nil
  | _, _, 0, _, _, .cons _ t, h => .cons h t
  | _, _, n + 1, _, _, .cons r t, h => .cons r (RepL.set n t h)
theorem RepL.dropLast {vs : List V} {ds : List D} (h : RepL K F vs ds) : RepL K F vs.dropLast ds.dropLast := by
  rw [List.dropLast_eq_take, List.dropLast_eq_take, h.length]
  exact h.take _
theorem RepL.reverse : ∀ {vs : List V} {ds : List D}, RepL K F vs ds → RepL K F vs.reverse ds.reverse
  | _, _, .nil => .nil
  | _, _, .cons r t => by
    rw [List.reverse_cons, List.reverse_cons]
    exact (RepL.reverse t).snoc r
theorem RepL.eraseIdx : ∀ {vs : List V} {ds : List D} (n : Nat), RepL K F vs ds → RepL K F (vs.eraseIdx n) (ds.eraseIdx n)
  | _, _, _, .nil => .nil
  | _, _, 0, .cons _ t => t
  | _, _, n + 1, .cons r t => .cons r (RepL.eraseIdx n t)
theorem RepL.flatRep {vs : List V} {ds : List D} (h : RepL K F vs ds) : ∀ k : Nat, RepL K F (List.replicate k vs).flatten (List.replicate k ds).flatten
  | 0 => .nil
  | k + 1 => by
    rw [List.replicate_succ, List.replicate_succ, List.flatten_cons, List.flatten_cons]
    exact h.append (RepL.flatRep h k)

mutual
/-- as the hand layer's own reading of data -/
theorem Rep.dp (h : ∀ a o, F a = some o → H a = some o) : ∀ {v : V} {d : D}, Rep K F v d → d.plain = true → Dp K H v d
  | _, _, .non, _ => .non
  | _, _, .bl b, _ => .bl b
  | _, _, .int i, _ => .int i
  | _, _, .str x, _ => .str x
  | _, _, .lst e r, c => .lst (SqL.of (h _ _ e)) (RepL.dp h r (by simpa [PyData.plain] using c))
  | _, _, .tup e r, c => .tup (sqT_mono h e.t) (RepL.dp h r (by simpa [PyData.plain] using c))
  | _, _, .dK e r, c => by simp [PyData.plain] at c
theorem RepL.dp (h : ∀ a o, F a = some o → H a = some o) : ∀ {vs : List V} {ds : List D}, RepL K F vs ds → PyData.plainAll ds = true → DpAll K H vs ds
  | _, _, .nil, _ => .nil
  | _, _, .cons r t, c => by
    have c' := Bool.and_eq_true_iff.mp (show (PyData.plain _ && PyData.plainAll _) = true by simpa [PyData.plainAll] using c)
    exact .cons (Rep.dp h r c'.1) (RepL.dp h t c'.2)
end
end

/-- what is known of the text once for all: the written part, the module's names, the tables of code objects -/
structure Gx where
  K : PySem.W.Frag
  mg : Str → Option Value
  T : Addr → Prop

/-- what stands in the heap: the frozen part F within H, the tables, the draws at ad -/
structure HeapOk (G : Gx) (F : Hp) (ad : Option Addr) (H : Hp) (w : Wd) : Prop where
  sub : ∀ a o, F a = some o → H a = some o
  noT : ∀ a, F a ≠ none → ¬ G.T a
  noD : ∀ a, F a ≠ none → ad ≠ some a
  tab : ∀ a, G.T a → GxR.TabG H a
  dr : ∀ a, ad = some a → ∃ vs, H a = some (.lst vs) ∧ RepL G.K F vs w

structure Grow (G : Gx) (ad : Option Addr) (F H F' H' : Hp) : Prop where
  mono : ∀ a o, F a = some o → F' a = some o
  keep : ∀ a o, H a = some o → ¬ G.T a → ad ≠ some a → H' a = some o
  nf : ∀ a, H a ≠ none → F a = none → F' a = none

/-- a dict whose keys are ints and texts, pair by pair -/
inductive DKp (K : PySem.W.Frag) (F : Hp) : List (Key × V) → List (D × D) → Prop
  | nil : DKp K F [] []
  | cons {k : Key} {v : V} {d : D} {ks : List (Key × V)} {kds : List (D × D)} : Rep K F v d → DKp K F ks kds → DKp K F ((k, v) :: ks) ((keyD k, d) :: kds)
def DK1 (K : PySem.W.Frag) (F : Hp) (o : HO) (kds : List (D × D)) : Prop := ∃ kvs, o = .dK kvs ∧ DKp K F kvs kds
theorem DKp.mono {K : PySem.W.Frag} {F F' : Hp} (m : ∀ a o, F a = some o → F' a = some o) : ∀ {kvs : List (Key × V)} {kds : List (D × D)}, DKp K F kvs kds → DKp K F' kvs kds
  | _, _, .nil => .nil
  | _, _, .cons r t => .cons (Rep.mono m r) (DKp.mono m t)
theorem DKp.zip {K : PySem.W.Frag} {F : Hp} : ∀ {kvs : List (Key × V)} {kds : List (D × D)}, DKp K F kvs kds → ∃ ds, RepL K F (kvs.map (·.2)) ds ∧ kds = (kvs.map fun p => keyD p.1).zip ds
  | _, _, .nil => ⟨[], .nil, rfl⟩
  | _, _, .cons r t => let ⟨ds, h1, h2⟩ := DKp.zip t; ⟨_ :: ds, .cons r h1, by rw [h2]; rfl⟩
theorem DKp.of {K : PySem.W.Frag} {F : Hp} : ∀ {kvs : List (Key × V)} {ds : List D}, RepL K F (kvs.map (·.2)) ds → DKp K F kvs ((kvs.map fun p => keyD p.1).zip ds)
  | [], _, h => by cases h; exact .nil
  | _ :: _, _, h => by
    cases h with
    | cons r t => exact .cons r (DKp.of t)
theorem DK1.mono {K : PySem.W.Frag} {F F' : Hp} {o : HO} {kds : List (D × D)} (m : ∀ a o, F a = some o → F' a = some o) (h : DK1 K F o kds) : DK1 K F' o kds :=
  let ⟨kvs, e, p⟩ := h; ⟨kvs, e, p.mono m⟩
theorem DK1.notbl {K : PySem.W.Frag} {F : Hp} {o : HO} {kds : List (D × D)} (h : DK1 K F o kds) : ∀ ps, o ≠ .tbl ps := by
  obtain ⟨kvs, e, _⟩ := h
  subst e; intro ps z; cases z
def SlOk (G : Gx) (F : Hp) (ad : Option Addr) (H : Hp) (v : V) : Sl → Prop
  | .v d => Rep G.K F v d
  | .ol ds => ∃ a vs, v = .ref a ∧ F a = none ∧ ad ≠ some a ∧ H a = some (.lst vs) ∧ RepL G.K F vs ds
  | .od kvs => ∃ a o, v = .ref a ∧ F a = none ∧ ad ≠ some a ∧ H a = some o ∧ DK1 G.K F o kvs
  | .dr => ∃ a, ad = some a ∧ v = .ref a
  | .sc ns => ∃ a, v = .ref a ∧ SqL G.K F a (ns.map V.int)

def Sl.own : Sl → Bool
  | .ol _ => true
  | .od _ => true
  | _ => false

structure EnvOk (G : Gx) (F : Hp) (ad : Option Addr) (σ : St) (H : Hp) (ρ : Ev) : Prop where
  len : ρ.length = σ.length
  sl : ∀ (i : Nat) s, ρ[i]? = some (some s) → ∃ v, σ[i]? = some (some v) ∧ SlOk G F ad H v s
  dist : ∀ (i j : Nat) s t v, i ≠ j → ρ[i]? = some (some s) → ρ[j]? = some (some t) → s.own = true → t.own = true → σ[i]? = some (some v) → σ[j]? ≠ some (some v)

structure At (G : Gx) (F : Hp) (ad : Option Addr) (σ : St) (H : Hp) (ρ : Ev) (w : Wd) : Prop where
  hp : HeapOk G F ad H w
  en : EnvOk G F ad σ H ρ

section
variable {G : Gx} {F F' F'' H H' H'' : Hp} {ad : Option Addr} {σ : St} {ρ : Ev} {w w' : Wd}
theorem Grow.refl : Grow G ad F H F H := ⟨fun _ _ e => e, fun _ _ e _ _ => e, fun _ _ e => e⟩
theorem Grow.trans (a : Grow G ad F H F' H') (b : Grow G ad F' H' F'' H'') (hT : ∀ a, G.T a → H' a ≠ none) (hD : ∀ a, ad = some a → H' a ≠ none) : Grow G ad F H F'' H'' where
  mono := fun c o e => b.mono c o (a.mono c o e)
  keep := fun c o e h1 h2 => b.keep c o (a.keep c o e h1 h2) h1 h2
  nf := fun c h1 h2 => b.nf c (by
    by_cases ht : G.T c
    · exact hT c ht
    · by_cases hd : ad = some c
      · exact hD c hd
      · cases q : H c with
        | none => exact absurd q h1
        | some o => rw [a.keep c o q ht hd]; exact fun z => by cases z) (a.nf c h1 h2)
theorem HeapOk.tN (h : HeapOk G F ad H w) : ∀ a, G.T a → H a ≠ none := fun a ht z => by
  obtain ⟨ps, e, _⟩ := h.tab a ht
  rw [z] at e; cases e
theorem HeapOk.dN (h : HeapOk G F ad H w) : ∀ a, ad = some a → H a ≠ none := fun a ht z => by
  obtain ⟨ps, e, _⟩ := h.dr a ht
  rw [z] at e; cases e
theorem Grow.then (a : Grow G ad F H F' H') (h : HeapOk G F' ad H' w) (b : Grow G ad F' H' F'' H'') : Grow G ad F H F'' H'' := a.trans b h.tN h.dN
theorem notT {a : Addr} {o : HO} (h : HeapOk G F ad H w) (e : H a = some o) (n : ∀ ps, o ≠ .tbl ps) : ¬ G.T a := fun ht => by
  obtain ⟨ps, e', _⟩ := h.tab a ht
  rw [e] at e'
  exact n ps (Option.some.inj e')
theorem SlOk.grow {v : V} {s : Sl} (hp : HeapOk G F ad H w) (g : Grow G ad F H F' H') (h : SlOk G F ad H v s) : SlOk G F' ad H' v s := by
  cases s with
  | v d => exact Rep.mono g.mono h
  | dr => exact h
  | sc ns =>
    obtain ⟨a, e, q⟩ := h
    exact ⟨a, e, sqL_mono g.mono q⟩
  | ol ds =>
    obtain ⟨a, vs, e, n, nd, hh, r⟩ := h
    exact ⟨a, vs, e, g.nf a (by rw [hh]; exact fun z => by cases z) n, nd, g.keep a _ hh (notT hp hh fun ps z => by cases z) nd, r.mono g.mono⟩
  | od kvs =>
    obtain ⟨a, o, e, n, nd, hh, r⟩ := h
    exact ⟨a, o, e, g.nf a (by rw [hh]; exact fun z => by cases z) n, nd, g.keep a _ hh (notT hp hh r.notbl) nd, r.mono g.mono⟩
theorem EnvOk.grow (hp : HeapOk G F ad H w) (g : Grow G ad F H F' H') (h : EnvOk G F ad σ H ρ) : EnvOk G F' ad σ H' ρ where
  len := h.len
  sl := fun i s e => by
    obtain ⟨v, h1, h2⟩ := h.sl i s e
    exact ⟨v, h1, h2.grow hp g⟩
  dist := h.dist
theorem At.grow (a : At G F ad σ H ρ w) (h : HeapOk G F' ad H' w') (g : Grow G ad F H F' H') : At G F' ad σ H' ρ w' := ⟨h, a.en.grow a.hp g⟩
/-- H' is H and a new thing -/
theorem HeapOk.new (h : HeapOk G F ad H w) {p : Addr} {o : HO} (hp : H p = none) : HeapOk G F ad (upd H p o) w ∧ Grow G ad F H F (upd H p o) := by
  have ne : ∀ a o, H a = some o → a ≠ p := fun a o e => ne_of_none e hp
  refine ⟨⟨fun a o' e => ?_, h.noT, h.noD, fun a ht => ?_, fun a ha => ?_⟩, fun _ _ e => e, fun a o' e _ _ => ?_, fun _ _ e => e⟩
  · have e' := h.sub a o' e
    rw [upd_ne (ne a _ e')]; exact e'
  · obtain ⟨ps, e, t⟩ := h.tab a ht
    exact ⟨ps, by rw [upd_ne (ne a _ e)]; exact e, t⟩
  · obtain ⟨vs, e, r⟩ := h.dr a ha
    exact ⟨vs, by rw [upd_ne (ne a _ e)]; exact e, r⟩
  · rw [upd_ne (ne a _ e)]; exact e
/-- a new thing is frozen -/
theorem HeapOk.newF (h : HeapOk G F ad H w) {p : Addr} {o : HO} (hp : H p = none) : HeapOk G (upd F p o) ad (upd H p o) w ∧ Grow G ad F H (upd F p o) (upd H p o) := by
  have hF : F p = none := by
    cases q : F p with
    | none => rfl
    | some u => rw [h.sub p u q] at hp; cases hp
  have mono : ∀ a o', F a = some o' → upd F p o a = some o' := fun a o' e => by rw [upd_ne (ne_of_none e hF)]; exact e
  obtain ⟨h1, g1⟩ := h.new (o := o) hp
  refine ⟨⟨fun a o' e => ?_, fun a ha => ?_, fun a ha => ?_, h1.tab, fun a ha => ?_⟩, mono, g1.keep, fun a h2 h3 => ?_⟩
  · by_cases q : a = p
    · subst q; rw [upd_same] at e ⊢; exact e
    · rw [upd_ne q] at e; exact h1.sub a o' e
  · by_cases q : a = p
    · subst q; exact fun ht => h.tN a ht hp
    · rw [upd_ne q] at ha; exact h.noT a ha
  · by_cases q : a = p
    · subst q; exact fun ht => h.dN a ht hp
    · rw [upd_ne q] at ha; exact h.noD a ha
  · obtain ⟨vs, e, r⟩ := h1.dr a ha
    exact ⟨vs, e, r.mono mono⟩
  · rw [upd_ne (fun z => by subst z; exact h2 hp)]; exact h3
end

/-- what is asked behind a piece -/
def Post (G : Gx) (Wx : WX) (σ : St) (F : Hp) (ad : Option Addr) (H : Hp) {α : Type} (P : α → Wd → Hp → Hp → Prop) : R α → Prop
  | .ok a w => ∀ F' H', HeapOk G F' ad H' w → Grow G ad F H F' H' → P a w F' H'
  | .exc c w => ∃ C, G.mg c = some (.ref C) ∧ ∀ F' H', HeapOk G F' ad H' w → Grow G ad F H F' H' → Wx (.ref C) none σ H'
  | .bad => False
def tD (G : Gx) (Wx : WX) (f : Ef) : TE := fun σ H Q => ∃ F ad ρ w, At G F ad σ H ρ w ∧ Post G Wx σ F ad H (fun d _ F' H' => ∀ v, Rep G.K F' v d → Q v H') (f ρ w)
/-- a value whose content is read -/
def RepB (G : Gx) (F : Hp) (ad : Option Addr) (H : Hp) (v : V) (d : D) : Prop :=
  Rep G.K F v d ∨ (∃ ds, d = .list ds ∧ SlOk G F ad H v (.ol ds)) ∨ ∃ kvs, d = .dict kvs ∧ SlOk G F ad H v (.od kvs)
def tB (G : Gx) (Wx : WX) (f : Ef) : TE := fun σ H Q => ∃ F ad ρ w, At G F ad σ H ρ w ∧ Post G Wx σ F ad H (fun d _ F' H' => ∀ v, RepB G F' ad H' v d → Q v H') (f ρ w)
/-- a list that is new -/
def tO (G : Gx) (Wx : WX) (f : Ev → Wd → R (List D)) : TE := fun σ H Q => ∃ F ad ρ w, At G F ad σ H ρ w ∧
  Post G Wx σ F ad H (fun ds _ F' H' => ∀ a vs, H a = none → H' a = some (.lst vs) → F' a = none → RepL G.K F' vs ds → Q (.ref a) H') (f ρ w)
def tT (G : Gx) (Wx : WX) (f : Ev → Wd → R Bool) : TT := fun σ H Q => ∃ F ad ρ w, At G F ad σ H ρ w ∧ Post G Wx σ F ad H (fun b _ _ H' => Q b H') (f ρ w)
def tL (G : Gx) (Wx : WX) (f : Ev → Wd → R (List D)) : TA := fun σ H Q => ∃ F ad ρ w, At G F ad σ H ρ w ∧ Post G Wx σ F ad H (fun ds _ F' H' => ∀ vs, RepL G.K F' vs ds → Q vs H') (f ρ w)

abbrev SE (G : Gx) (Wx : WX) (X : Cx) (e : Expr) (f : Ef) : Prop := PE X e (tD G Wx f)
abbrev SB (G : Gx) (Wx : WX) (X : Cx) (e : Expr) (f : Ef) : Prop := PE X e (tB G Wx f)
abbrev SO (G : Gx) (Wx : WX) (X : Cx) (e : Expr) (f : Ev → Wd → R (List D)) : Prop := PE X e (tO G Wx f)
abbrev ST (G : Gx) (Wx : WX) (X : Cx) (e : Expr) (f : Ev → Wd → R Bool) : Prop := PT X e (tT G Wx f)

theorem PE.imp {X : Cx} {e : Expr} {t t' : TE} (h : PE X e t) (i : ∀ σ H Q, t' σ H Q → t σ H Q) : PE X e t' := ⟨fun pins s σ H Q I q => h.run pins s σ H Q I (i σ H Q q)⟩
theorem PT.imp {X : Cx} {e : Expr} {t t' : TT} (h : PT X e t) (i : ∀ σ H Q, t' σ H Q → t σ H Q) : PT X e t' := ⟨fun pins s σ H Q I q => h.run pins s σ H Q I (i σ H Q q)⟩
theorem PA.imp {X : Cx} {es : List Expr} {t t' : TA} (h : PA X es t) (i : ∀ σ H Q, t' σ H Q → t σ H Q) : PA X es t' := ⟨fun pos pins s σ H Q I q => h.run pos pins s σ H Q I (i σ H Q q)⟩
theorem PS.imp {X : Cx} {e : Stmt} {t t' : TS} (h : PS X e t) (i : ∀ D σ H, t' D σ H → t D σ H) : PS X e t' := ⟨fun pins s σ H D I q => h.run pins s σ H D I (i D σ H q)⟩
theorem PSs.imp {X : Cx} {e : List Stmt} {t t' : TS} (h : PSs X e t) (i : ∀ D σ H, t' D σ H → t D σ H) : PSs X e t' := ⟨fun pins s σ H D I q => h.run pins s σ H D I (i D σ H q)⟩

section
variable {G : Gx} {Wx : WX} {σ : St} {F H : Hp} {ad : Option Addr} {ρ : Ev} {w : Wd} {α β : Type}
/-- the heart: a piece, then another -/
theorem Post.bind {r : R α} {k : α → Wd → R β} {P : β → Wd → Hp → Hp → Prop} (hp : HeapOk G F ad H w) (h : Post G Wx σ F ad H P (r.bind k)) :
    Post G Wx σ F ad H (fun a w1 F1 H1 => Post G Wx σ F1 ad H1 P (k a w1)) r := by
  cases r with
  | bad => exact h
  | exc c w1 => exact h
  | ok a w1 =>
    intro F1 H1 h1 g1
    have h' : Post G Wx σ F ad H P (k a w1) := h
    cases q : k a w1 with
    | bad => rw [q] at h'; exact h'
    | exc c w2 =>
      rw [q] at h'
      obtain ⟨C, e, z⟩ := h'
      exact ⟨C, e, fun F2 H2 h2 g2 => z F2 H2 h2 (g1.then h1 g2)⟩
    | ok b w2 =>
      rw [q] at h'
      exact fun F2 H2 h2 g2 => h' F2 H2 h2 (g1.then h1 g2)
theorem Post.imp {r : R α} {P P' : α → Wd → Hp → Hp → Prop} (h : Post G Wx σ F ad H P r) (i : ∀ a w F' H', HeapOk G F' ad H' w → Grow G ad F H F' H' → P a w F' H' → P' a w F' H') : Post G Wx σ F ad H P' r := by
  cases r with
  | bad => exact h
  | exc c w => exact h
  | ok a w => exact fun F' H' h1 g1 => i a w F' H' h1 g1 (h F' H' h1 g1)
theorem Rep.b {v : V} {d : D} (h : Rep G.K F v d) : RepB G F ad H v d := .inl h
theorem RepB.grow {F' H' : Hp} {v : V} {d : D} (hp : HeapOk G F ad H w) (g : Grow G ad F H F' H') (h : RepB G F ad H v d) : RepB G F' ad H' v d := by
  rcases h with h | ⟨ds, e, h⟩ | ⟨kvs, e, h⟩
  · exact .inl (h.mono g.mono)
  · exact .inr (.inl ⟨ds, e, h.grow hp g⟩)
  · exact .inr (.inr ⟨kvs, e, h.grow hp g⟩)
theorem RepB.list {v : V} {ds : List D} (hp : HeapOk G F ad H w) (h : RepB G F ad H v (.list ds)) : ∃ a vs, v = .ref a ∧ H a = some (.lst vs) ∧ RepL G.K F vs ds := by
  rcases h with h | ⟨es, e, a, vs, e1, _, _, e2, r⟩ | ⟨kvs, e, h⟩
  · cases h with
    | lst e r => exact ⟨_, _, rfl, hp.sub _ _ e, r⟩
  · cases e
    exact ⟨a, vs, e1, e2, r⟩
  · cases e
theorem RepB.tup {v : V} {ds : List D} (hp : HeapOk G F ad H w) (h : RepB G F ad H v (.tuple ds)) : ∃ a vs, v = .ref a ∧ SqT G.K H a vs ∧ RepL G.K F vs ds := by
  rcases h with h | ⟨es, e, _⟩ | ⟨kvs, e, h⟩
  · cases h with
    | tup e r => exact ⟨_, _, rfl, sqT_mono hp.sub e.t, r⟩
  · cases e
  · cases e
theorem RepB.int {v : V} {i : Int} (h : RepB G F ad H v (.int i)) : v = .int i := by
  rcases h with h | ⟨es, e, _⟩ | ⟨kvs, e, h⟩
  · cases h; rfl
  · cases e
  · cases e
theorem RepB.bool {v : V} {i : Bool} (h : RepB G F ad H v (.bool i)) : v = .bl i := by
  rcases h with h | ⟨es, e, _⟩ | ⟨kvs, e, h⟩
  · cases h; rfl
  · cases e
  · cases e
theorem RepB.str {v : V} {i : Str} (h : RepB G F ad H v (.str i)) : v = .str i := by
  rcases h with h | ⟨es, e, _⟩ | ⟨kvs, e, h⟩
  · cases h; rfl
  · cases e
  · cases e
theorem RepB.none {v : V} (h : RepB G F ad H v .none) : v = .non := by
  rcases h with h | ⟨es, e, _⟩ | ⟨kvs, e, h⟩
  · cases h; rfl
  · cases e
  · cases e
theorem RepB.dp {v : V} {d : D} (hp : HeapOk G F ad H w) (h : RepB G F ad H v d) (c : d.plain = true) : Dp G.K H v d := by
  rcases h with h | ⟨ds, rfl, a, vs, rfl, _, _, e2, r⟩ | ⟨kvs, rfl, h⟩
  · exact h.dp hp.sub c
  · exact .lst (SqL.of e2) (r.dp hp.sub (by simpa [PyData.plain] using c))
  · simp [PyData.plain] at c
end
end DL

set_option Elab.async false
set_option linter.all false
set_option maxRecDepth 100000
set_option maxHeartbeats 2000000
namespace DL
open PySem PySem.Spec L2

abbrev gx (X : Cx) (T : Addr → Prop) : Gx := ⟨X.K, X.mg, T⟩
def R.of {α : Type} (w : Wd) : Option α → R α
  | some a => .ok a w
  | none => .bad

section
variable {G : Gx} {Wx : WX} {σ : St} {F H : Hp} {ad : Option Addr} {ρ : Ev} {w : Wd} {α β : Type}

/-- one operand, then what follows -/
theorem un_in {fa : Ef} {k : D → Wd → R β} {P : β → Wd → Hp → Hp → Prop} {Z : V → Hp → Prop} (a0 : At G F ad σ H ρ w) (h : Post G Wx σ F ad H P ((fa ρ w).bind k))
    (hv : ∀ F1 H1 w1 x dx, At G F1 ad σ H1 ρ w1 → Grow G ad F H F1 H1 → RepB G F1 ad H1 x dx → Post G Wx σ F1 ad H1 P (k dx w1) → Z x H1) : tB G Wx fa σ H Z :=
  ⟨F, ad, ρ, w, a0, (h.bind a0.hp).imp fun d w1 F1 H1 h1 g1 p v r => hv F1 H1 w1 v d (a0.grow h1 g1) g1 r p⟩
theorem unE_in {fa : Ef} {k : D → Wd → R β} {P : β → Wd → Hp → Hp → Prop} {Z : V → Hp → Prop} (a0 : At G F ad σ H ρ w) (h : Post G Wx σ F ad H P ((fa ρ w).bind k))
    (hv : ∀ F1 H1 w1 x dx, At G F1 ad σ H1 ρ w1 → Grow G ad F H F1 H1 → Rep G.K F1 x dx → Post G Wx σ F1 ad H1 P (k dx w1) → Z x H1) : tD G Wx fa σ H Z :=
  ⟨F, ad, ρ, w, a0, (h.bind a0.hp).imp fun d w1 F1 H1 h1 g1 p v r => hv F1 H1 w1 v d (a0.grow h1 g1) g1 r p⟩
/-- two operands -/
theorem bin_in {fa fb : Ef} {k : D → D → Wd → R β} {P : β → Wd → Hp → Hp → Prop} {Z : V → V → Hp → Prop} (a0 : At G F ad σ H ρ w) (h : Post G Wx σ F ad H P ((fa ρ w).bind fun a w1 => (fb ρ w1).bind fun b w2 => k a b w2))
    (hv : ∀ F1 H1 w1 x y dx dy, At G F1 ad σ H1 ρ w1 → Grow G ad F H F1 H1 → RepB G F1 ad H1 x dx → RepB G F1 ad H1 y dy → Post G Wx σ F1 ad H1 P (k dx dy w1) → Z x y H1) :
    tB G Wx fa σ H fun x H1 => tB G Wx fb σ H1 fun y H2 => Z x y H2 :=
  un_in a0 h fun F1 H1 w1 x dx a1 g1 rx p => un_in a1 p fun F2 H2 w2 y dy a2 g2 ry p2 => hv F2 H2 w2 x y dx dy a2 (g1.then a1.hp g2) (rx.grow a1.hp g2) ry p2
theorem Post.here {P : α → Wd → Hp → Hp → Prop} {a : α} (hp : HeapOk G F ad H w) (h : Post G Wx σ F ad H P (.ok a w)) : P a w F H := h F H hp Grow.refl
end

/-! ### operators by values -/
def OpD (X : Cx) (T : Addr → Prop) (f : Value → Value → Sem Value) (g : D → D → Option D) : Prop :=
  ∀ (pins : List (Addr × Obj)) (s : Shared) (σ : St) (H : Hp) (x y : V) (v u : Value) (Q : VK) (F : Hp) (ad : Option Addr) (w : Wd) (dx dy d : D), Inv X pins σ H s → RelV x v → RelV y u → HeapOk (gx X T) F ad H w →
    RepB (gx X T) F ad H x dx → RepB (gx X T) F ad H y dy → g dx dy = some d → (∀ v F' H', HeapOk (gx X T) F' ad H' w → Grow (gx X T) ad F H F' H' → Rep X.K F' v d → Q v H') →
    wpAny (model X.prog X.w) X.A (f v u) (EP X pins σ Q) X.xe s
/-- the reading of such an operator -/
def rD (X : Cx) (T : Addr → Prop) (g : D → D → Option D) : R2 := fun x y H Q => ∃ F ad w dx dy d, HeapOk (gx X T) F ad H w ∧ RepB (gx X T) F ad H x dx ∧ RepB (gx X T) F ad H y dy ∧ g dx dy = some d ∧
  ∀ v F' H', HeapOk (gx X T) F' ad H' w → Grow (gx X T) ad F H F' H' → Rep X.K F' v d → Q v H'
theorem OpD.r {X : Cx} {T : Addr → Prop} {f : Value → Value → Sem Value} {g : D → D → Option D} (h : OpD X T f g) : OpR X f (rD X T g) := by
  intro pins s σ H x y v u Q I rx ry ⟨F, ad, w, dx, dy, d, hp, bx, yy, e, q⟩
  exact h pins s σ H x y v u Q F ad w dx dy d I rx ry hp bx yy e q
def eBin (g : D → D → Option D) (fa fb : Ef) : Ef := fun ρ w => (fa ρ w).bind fun a w1 => (fb ρ w1).bind fun b w2 => R.of w2 (g a b)
theorem rD_in {X : Cx} {T : Addr → Prop} {Wx : WX} {σ : St} {F H : Hp} {ad : Option Addr} {w : Wd} {g : D → D → Option D} {x y : V} {dx dy : D} {Q : VK} (hp : HeapOk (gx X T) F ad H w) (rx : RepB (gx X T) F ad H x dx) (ry : RepB (gx X T) F ad H y dy)
    (p : Post (gx X T) Wx σ F ad H (fun d _ F' H' => ∀ v, Rep X.K F' v d → Q v H') (R.of w (g dx dy))) : rD X T g x y H Q := by
  cases e : g dx dy with
  | none => rw [e] at p; exact p.elim
  | some d =>
    rw [e] at p
    exact ⟨F, ad, w, dx, dy, d, hp, rx, ry, e, fun v F' H' h1 g1 r => p F' H' h1 g1 v r⟩

section
variable {X : Cx} {T : Addr → Prop} {Wx : WX} {a b c : Expr} {fa fb fc : Ef} {pos : Pos}
/-- a frozen value may be read -/
theorem sb (h : SE (gx X T) Wx X a fa) : SB (gx X T) Wx X a fa := PE.imp h fun σ H Q ⟨F, ad, ρ, w, a0, p⟩ =>
  ⟨F, ad, ρ, w, a0, p.imp fun d w1 F1 H1 h1 g1 q v r => q v r.b⟩
theorem se_bin {op : Operator} {g : D → D → Option D} (ho : OpD X T (binaryOp op) g) (ha : SB (gx X T) Wx X a fa) (hb : SB (gx X T) Wx X b fb) : SE (gx X T) Wx X (.BinOp a op b pos) (eBin g fa fb) :=
  PE.imp (pe_op ho.r ha hb) fun σ H Q ⟨F, ad, ρ, w, a0, p⟩ => bin_in a0 p fun F1 H1 w1 x y dx dy a1 _ rx ry p1 => rD_in a1.hp rx ry p1
theorem se_cmp {op : CmpOp} {g : D → D → Option D} (ho : OpD X T (compareOp op) g) (ha : SB (gx X T) Wx X a fa) (hb : SB (gx X T) Wx X b fb) (hm : behindInMarks op b = false) : SE (gx X T) Wx X (.Compare a [op] [b] pos) (eBin g fa fb) :=
  PE.imp (pe_cmpR ho.r ha hb hm) fun σ H Q ⟨F, ad, ρ, w, a0, p⟩ => bin_in a0 p fun F1 H1 w1 x y dx dy a1 _ rx ry p1 => rD_in a1.hp rx ry p1
/-- a op b op c -/
def eChain (g g' : D → D → Option D) (fa fb fc : Ef) : Ef := fun ρ w => (fa ρ w).bind fun a w1 => (fb ρ w1).bind fun b w2 =>
  match g a b with
  | some (.bool true) => (fc ρ w2).bind fun c w3 => R.of w3 (g' b c)
  | some (.bool false) => .ok (.bool false) w2
  | _ => .bad
theorem se_chain {op op' : CmpOp} {g g' : D → D → Option D} (ho : OpD X T (compareOp op) g) (ho' : OpD X T (compareOp op') g') (ha : SB (gx X T) Wx X a fa) (hb : SB (gx X T) Wx X b fb) (hc : SB (gx X T) Wx X c fc)
    (hm : lastMarks [op, op'] [b, c] = false := by with_unfolding_all rfl) : SE (gx X T) Wx X (.Compare a [op, op'] [b, c] pos) (eChain g g' fa fb fc) :=
  PE.imp (pe_chain ho.r ho'.r ha hb hc hm) fun σ H Q ⟨F, ad, ρ, w, a0, p⟩ => bin_in a0 p fun F1 H1 w1 x y dx dy a1 _ rx ry p1 => by
    cases e : g dx dy with
    | none => simp only [e] at p1; exact p1.elim
    | some z =>
      simp only [e] at p1
      refine ⟨F1, ad, w1, dx, dy, z, a1.hp, rx, ry, e, fun v F2 H2 h2 g2 r => ?_⟩
      cases z with
      | bool k =>
        cases r
        refine ⟨k, rfl, ?_⟩
        cases k with
        | false => exact p1 F2 H2 h2 g2 _ (.bl false)
        | true =>
          have a2 := a1.grow h2 g2
          rw [if_pos rfl]
          have p2 : Post (gx X T) Wx σ F2 ad H2 (fun d x F' H' => ∀ v, Rep X.K F' v d → Q v H') ((fc ρ w1).bind fun c w3 => R.of w3 (g' dy c)) := by
            cases q : (fc ρ w1).bind fun c w3 => R.of w3 (g' dy c) with
            | bad => simp only [q] at p1; exact p1
            | exc c w => simp only [q] at p1; obtain ⟨C, e1, z⟩ := p1; exact ⟨C, e1, fun F3 H3 h3 g3 => z F3 H3 h3 (g2.then h2 g3)⟩
            | ok d w => simp only [q] at p1; exact fun F3 H3 h3 g3 => p1 F3 H3 h3 (g2.then h2 g3)
          exact un_in a2 p2 fun F3 H3 w3 z dz a3 g3 rz p3 => rD_in a3.hp ((ry.grow a1.hp g2).grow a2.hp g3) rz p3
      | _ => exact p1.elim
end

/-! ### tests, and, or, not, if -/
def truth : D → Option Bool
  | .none => some false
  | .bool b => some b
  | .int i => some (i != 0)
  | .list ds => some (!ds.isEmpty)
  | .tuple ds => some (!ds.isEmpty)
  | _ => none
theorem RepL.isEmpty {K : PySem.W.Frag} {F : Hp} {vs : List V} {ds : List D} (h : RepL K F vs ds) : vs.isEmpty = ds.isEmpty := by
  cases h <;> rfl
theorem truV {G : Gx} {F H : Hp} {ad : Option Addr} {w : Wd} {v : V} {d : D} {k : Bool} (hp : HeapOk G F ad H w) (r : RepB G F ad H v d) (e : truth d = some k) : TruV G.K v H k := by
  cases d with
  | none => rw [r.none]; exact (Option.some.inj e).symm
  | bool b => rw [r.bool]; exact (Option.some.inj e).symm
  | int i => rw [r.int]; exact (Option.some.inj e).symm
  | str _ => cases e
  | dict _ => cases e
  | list ds =>
    obtain ⟨a, vs, rfl, h, rr⟩ := r.list hp
    exact .inl ⟨vs, SqL.of h, by rw [rr.isEmpty]; exact (Option.some.inj e).symm⟩
  | tuple ds =>
    obtain ⟨a, vs, rfl, h, rr⟩ := r.tup hp
    exact .inr (.inl ⟨vs, h, by rw [rr.isEmpty]; exact (Option.some.inj e).symm⟩)
section
variable {X : Cx} {T : Addr → Prop} {Wx : WX} {a b c : Expr} {rest : List Expr} {fa fb fc : Ef} {ta tb : Ev → Wd → R Bool} {pos : Pos}
/-- a value's truth as a test -/
def tstV (fa : Ef) : Ev → Wd → R Bool := fun ρ w => (fa ρ w).bind fun d w1 => R.of w1 (truth d)
theorem st_val (ha : SB (gx X T) Wx X a fa) (he : ∀ whole, isTrue a X.env whole = (do let v ← whole; standAt a.pos; holding [v] (truthy v)) := by intro _; rfl) : ST (gx X T) Wx X a (tstV fa) :=
  PT.imp (pt_truth ha he) fun σ H Q ⟨F, ad, ρ, w, a0, p⟩ => un_in a0 p fun F1 H1 w1 x dx a1 _ rx p1 => by
    cases e : truth dx with
    | none => rw [e] at p1; exact p1.elim
    | some k => rw [e] at p1; exact ⟨k, truV a1.hp rx e, p1 F1 H1 a1.hp Grow.refl⟩
/-- a comparison as a test -/
def bOf : D → Option Bool
  | .bool b => some b
  | _ => none
def tCm (g : D → D → Option D) (fa fb : Ef) : Ev → Wd → R Bool := fun ρ w => (fa ρ w).bind fun a w1 => (fb ρ w1).bind fun b w2 => R.of w2 ((g a b).bind bOf)
theorem rD_inB {σ : St} {F H : Hp} {ad : Option Addr} {w : Wd} {g : D → D → Option D} {x y : V} {dx dy : D} {Q : Bool → Hp → Prop} (hp : HeapOk (gx X T) F ad H w) (rx : RepB (gx X T) F ad H x dx) (ry : RepB (gx X T) F ad H y dy)
    (p : Post (gx X T) Wx σ F ad H (fun b _ F' H' => Q b H') (R.of w ((g dx dy).bind bOf))) : rD X T g x y H fun z H' => ∃ k, z = .bl k ∧ Q k H' := by
  cases e : g dx dy with
  | none => rw [e] at p; exact p.elim
  | some d =>
    rw [e] at p
    cases d with
    | bool k => exact ⟨F, ad, w, dx, dy, .bool k, hp, rx, ry, e, fun v F' H' h1 g1 r => by cases r; exact ⟨k, rfl, p F' H' h1 g1⟩⟩
    | _ => exact p.elim
theorem st_cmp {op : CmpOp} {g : D → D → Option D} (ho : OpD X T (compareOp op) g) (ha : SB (gx X T) Wx X a fa) (hb : SB (gx X T) Wx X b fb) (hm : behindInMarks op b = false) : ST (gx X T) Wx X (.Compare a [op] [b] pos) (tCm g fa fb) :=
  PT.imp (pt_cmpR ho.r ha hb hm) fun σ H Q ⟨F, ad, ρ, w, a0, p⟩ => bin_in a0 p fun F1 H1 w1 x y dx dy a1 _ rx ry p1 => rD_inB a1.hp rx ry p1
def tChn (g g' : D → D → Option D) (fa fb fc : Ef) : Ev → Wd → R Bool := fun ρ w => (fa ρ w).bind fun a w1 => (fb ρ w1).bind fun b w2 =>
  match g a b with
  | some (.bool true) => (fc ρ w2).bind fun c w3 => R.of w3 ((g' b c).bind bOf)
  | some (.bool false) => .ok false w2
  | _ => .bad
theorem Post.shift {G : Gx} {σ : St} {F H F2 H2 : Hp} {ad : Option Addr} {w : Wd} {α : Type} {P : α → Wd → Hp → Hp → Prop} {r : R α} (h2 : HeapOk G F2 ad H2 w) (g2 : Grow G ad F H F2 H2) (p : Post G Wx σ F ad H P r) : Post G Wx σ F2 ad H2 P r := by
  cases r with
  | bad => exact p
  | exc c w => obtain ⟨C, e1, z⟩ := p; exact ⟨C, e1, fun F3 H3 h3 g3 => z F3 H3 h3 (g2.then h2 g3)⟩
  | ok d w => exact fun F3 H3 h3 g3 => p F3 H3 h3 (g2.then h2 g3)
theorem st_chain {op op' : CmpOp} {g g' : D → D → Option D} (ho : OpD X T (compareOp op) g) (ho' : OpD X T (compareOp op') g') (ha : SB (gx X T) Wx X a fa) (hb : SB (gx X T) Wx X b fb) (hc : SB (gx X T) Wx X c fc)
    (hm : lastMarks [op, op'] [b, c] = false := by with_unfolding_all rfl) : ST (gx X T) Wx X (.Compare a [op, op'] [b, c] pos) (tChn g g' fa fb fc) :=
  PT.imp (pt_chain ho.r ho'.r ha hb hc hm) fun σ H Q ⟨F, ad, ρ, w, a0, p⟩ => bin_in a0 p fun F1 H1 w1 x y dx dy a1 _ rx ry p1 => by
    cases e : g dx dy with
    | none => simp only [e] at p1; exact p1.elim
    | some z =>
      simp only [e] at p1
      refine ⟨F1, ad, w1, dx, dy, z, a1.hp, rx, ry, e, fun v F2 H2 h2 g2 r => ?_⟩
      cases z with
      | bool k =>
        cases r
        refine ⟨k, rfl, ?_⟩
        cases k with
        | false => exact ⟨false, rfl, p1 F2 H2 h2 g2⟩
        | true =>
          have a2 := a1.grow h2 g2
          rw [if_pos rfl]
          exact un_in a2 (p1.shift h2 g2) fun F3 H3 w3 z dz a3 g3 rz p3 => rD_inB a3.hp ((ry.grow a1.hp g2).grow a2.hp g3) rz p3
      | _ => exact p1.elim
def tNo (ta : Ev → Wd → R Bool) : Ev → Wd → R Bool := fun ρ w => (ta ρ w).bind fun b w1 => .ok (!b) w1
def tAn (ta tb : Ev → Wd → R Bool) : Ev → Wd → R Bool := fun ρ w => (ta ρ w).bind fun b w1 => if b = true then tb ρ w1 else .ok false w1
def tOo (ta tb : Ev → Wd → R Bool) : Ev → Wd → R Bool := fun ρ w => (ta ρ w).bind fun b w1 => if b = true then .ok true w1 else tb ρ w1
theorem tst_in {G : Gx} {σ : St} {F H : Hp} {ad : Option Addr} {ρ : Ev} {w : Wd} {β : Type} {k : Bool → Wd → R β} {P : β → Wd → Hp → Hp → Prop} {Z : Bool → Hp → Prop} (a0 : At G F ad σ H ρ w) (h : Post G Wx σ F ad H P ((ta ρ w).bind k))
    (hv : ∀ F1 H1 w1 b, At G F1 ad σ H1 ρ w1 → Grow G ad F H F1 H1 → Post G Wx σ F1 ad H1 P (k b w1) → Z b H1) : tT G Wx ta σ H Z :=
  ⟨F, ad, ρ, w, a0, (h.bind a0.hp).imp fun d w1 F1 H1 h1 g1 p => hv F1 H1 w1 d (a0.grow h1 g1) g1 p⟩
theorem st_not (ha : ST (gx X T) Wx X a ta) : ST (gx X T) Wx X (.UnaryOp .Not a pos) (tNo ta) :=
  PT.imp (pt_not ha) fun σ H Q ⟨F, ad, ρ, w, a0, p⟩ => tst_in a0 p fun F1 H1 w1 b a1 _ p1 => p1 F1 H1 a1.hp Grow.refl
/-- a chain of and, or as a test -/
abbrev SW (G : Gx) (Wx : WX) (X : Cx) (e : Expr) (f : Ev → Wd → R Bool) : Prop := PW X e (tT G Wx f)
theorem PW.imp {X : Cx} {e : Expr} {t t' : TT} (h : PW X e t) (i : ∀ σ H Q, t' σ H Q → t σ H Q) : PW X e t' := ⟨fun wh pins s σ H Q I q => h.run wh pins s σ H Q I (i σ H Q q)⟩
theorem sw_and1 (ha : ST (gx X T) Wx X a ta) : SW (gx X T) Wx X (.BoolOp .And [a] pos) ta := pw_and1 ha
theorem sw_or1 (ha : ST (gx X T) Wx X a ta) : SW (gx X T) Wx X (.BoolOp .Or [a] pos) ta := pw_or1 ha
theorem sw_and (ha : ST (gx X T) Wx X a ta) (hb : SW (gx X T) Wx X (.BoolOp .And (b :: rest) pos) tb) : SW (gx X T) Wx X (.BoolOp .And (a :: b :: rest) pos) (tAn ta tb) :=
  PW.imp (pw_and ha hb) fun σ H Q ⟨F, ad, ρ, w, a0, p⟩ => tst_in a0 p fun F1 H1 w1 k a1 _ p1 => by
    cases k with
    | true => rw [if_pos rfl] at p1 ⊢; exact ⟨F1, ad, ρ, w1, a1, p1⟩
    | false => rw [if_neg Bool.false_ne_true] at p1 ⊢; exact p1 F1 H1 a1.hp Grow.refl
theorem sw_or (ha : ST (gx X T) Wx X a ta) (hb : SW (gx X T) Wx X (.BoolOp .Or (b :: rest) pos) tb) : SW (gx X T) Wx X (.BoolOp .Or (a :: b :: rest) pos) (tOo ta tb) :=
  PW.imp (pw_or ha hb) fun σ H Q ⟨F, ad, ρ, w, a0, p⟩ => tst_in a0 p fun F1 H1 w1 k a1 _ p1 => by
    cases k with
    | true => rw [if_pos rfl] at p1 ⊢; exact p1 F1 H1 a1.hp Grow.refl
    | false => rw [if_neg Bool.false_ne_true] at p1 ⊢; exact ⟨F1, ad, ρ, w1, a1, p1⟩
/-- and, or, not as values -/
def eAn (fa fb : Ef) : Ef := fun ρ w => (fa ρ w).bind fun d w1 => match truth d with
  | some true => fb ρ w1
  | some false => .ok d w1
  | none => .bad
def eOo (fa fb : Ef) : Ef := fun ρ w => (fa ρ w).bind fun d w1 => match truth d with
  | some true => .ok d w1
  | some false => fb ρ w1
  | none => .bad
def eNo (fa : Ef) : Ef := fun ρ w => (fa ρ w).bind fun d w1 => R.of w1 ((truth d).map fun b => .bool (!b))
theorem se_one {op} (h : SE (gx X T) Wx X a fa) : SE (gx X T) Wx X (.BoolOp op [a] pos) fa := pe_one h
theorem se_and (ha : SE (gx X T) Wx X a fa) (hb : SE (gx X T) Wx X (.BoolOp .And (b :: rest) pos) fb) : SE (gx X T) Wx X (.BoolOp .And (a :: b :: rest) pos) (eAn fa fb) :=
  PE.imp (pe_andT ha hb) fun σ H Q ⟨F, ad, ρ, w, a0, p⟩ => unE_in a0 p fun F1 H1 w1 x dx a1 _ rx p1 => by
    cases e : truth dx with
    | none => simp only [e] at p1; exact p1.elim
    | some k =>
      refine ⟨k, truV a1.hp rx.b e, ?_⟩
      cases k with
      | true => simp only [e] at p1; rw [if_pos rfl]; exact ⟨F1, ad, ρ, w1, a1, p1⟩
      | false => simp only [e] at p1; rw [if_neg Bool.false_ne_true]; exact p1 F1 H1 a1.hp Grow.refl _ rx
theorem se_or (ha : SE (gx X T) Wx X a fa) (hb : SE (gx X T) Wx X (.BoolOp .Or (b :: rest) pos) fb) : SE (gx X T) Wx X (.BoolOp .Or (a :: b :: rest) pos) (eOo fa fb) :=
  PE.imp (pe_orT ha hb) fun σ H Q ⟨F, ad, ρ, w, a0, p⟩ => unE_in a0 p fun F1 H1 w1 x dx a1 _ rx p1 => by
    cases e : truth dx with
    | none => simp only [e] at p1; exact p1.elim
    | some k =>
      refine ⟨k, truV a1.hp rx.b e, ?_⟩
      cases k with
      | true => simp only [e] at p1; rw [if_pos rfl]; exact p1 F1 H1 a1.hp Grow.refl _ rx
      | false => simp only [e] at p1; rw [if_neg Bool.false_ne_true]; exact ⟨F1, ad, ρ, w1, a1, p1⟩
theorem se_not (ha : SB (gx X T) Wx X a fa) : SE (gx X T) Wx X (.UnaryOp .Not a pos) (eNo fa) :=
  PE.imp (pe_notT ha) fun σ H Q ⟨F, ad, ρ, w, a0, p⟩ => un_in a0 p fun F1 H1 w1 x dx a1 _ rx p1 => by
    cases e : truth dx with
    | none => rw [e] at p1; exact p1.elim
    | some k => rw [e] at p1; exact ⟨k, truV a1.hp rx e, p1 F1 H1 a1.hp Grow.refl _ (.bl _)⟩
def eIf (tc : Ev → Wd → R Bool) (fa fb : Ef) : Ef := fun ρ w => (tc ρ w).bind fun k w1 => if k = true then fa ρ w1 else fb ρ w1
theorem se_if {tc : Ev → Wd → R Bool} (hc : ST (gx X T) Wx X c tc) (ha : SE (gx X T) Wx X a fa) (hb : SE (gx X T) Wx X b fb) : SE (gx X T) Wx X (.IfExp c a b pos) (eIf tc fa fb) :=
  PE.imp (pe_ifExp hc ha hb) fun σ H Q ⟨F, ad, ρ, w, a0, p⟩ => tst_in a0 p fun F1 H1 w1 k a1 _ p1 => by
    cases k with
    | true => rw [if_pos rfl] at p1 ⊢; exact ⟨F1, ad, ρ, w1, a1, p1⟩
    | false => rw [if_neg Bool.false_ne_true] at p1 ⊢; exact ⟨F1, ad, ρ, w1, a1, p1⟩
/-- the value of a test -/
def eT (ta : Ev → Wd → R Bool) : Ef := fun ρ w => (ta ρ w).bind fun b w1 => .ok (.bool b) w1
end

/-! ### names, constants -/
section
variable {X : Cx} {T : Addr → Prop} {Wx : WX} {x : Str} {pos : Pos}
def eV (i : Nat) : Ef := fun ρ w => match ρ[i]? with
  | some (some (.v d)) => .ok d w
  | _ => .bad
def eBw (i : Nat) : Ef := fun ρ w => match ρ[i]? with
  | some (some (.v d)) => .ok d w
  | some (some (.ol ds)) => .ok (.list ds) w
  | some (some (.od kvs)) => .ok (.dict kvs) w
  | _ => .bad
def eC (d : D) : Ef := fun _ w => .ok d w
theorem se_var {i : Nat} (h : PE X (.Name x pos) (tVar i)) : SE (gx X T) Wx X (.Name x pos) (eV i) := PE.imp h fun σ H Q ⟨F, ad, ρ, w, a0, p⟩ => by
  unfold eV at p
  split at p
  · rename_i d e
    obtain ⟨v, h1, h2⟩ := a0.en.sl i _ e
    exact ⟨v, h1, p F H a0.hp Grow.refl v h2⟩
  · exact p.elim
theorem sb_var {i : Nat} (h : PE X (.Name x pos) (tVar i)) : SB (gx X T) Wx X (.Name x pos) (eBw i) := PE.imp h fun σ H Q ⟨F, ad, ρ, w, a0, p⟩ => by
  unfold eBw at p
  split at p
  · rename_i d e
    obtain ⟨v, h1, h2⟩ := a0.en.sl i _ e
    exact ⟨v, h1, p F H a0.hp Grow.refl v (.inl h2)⟩
  · rename_i ds e
    obtain ⟨v, h1, h2⟩ := a0.en.sl i _ e
    exact ⟨v, h1, p F H a0.hp Grow.refl v (.inr (.inl ⟨_, rfl, h2⟩))⟩
  · rename_i ds e
    obtain ⟨v, h1, h2⟩ := a0.en.sl i _ e
    exact ⟨v, h1, p F H a0.hp Grow.refl v (.inr (.inr ⟨_, rfl, h2⟩))⟩
  · exact p.elim
theorem se_c {e : Expr} {v : V} {d : D} (h : PE X e (tC v)) (r : ∀ K F, Rep K F v d) : SE (gx X T) Wx X e (eC d) := PE.imp h fun σ H Q ⟨F, ad, ρ, w, a0, p⟩ => p F H a0.hp Grow.refl v (r _ _)
theorem se_int {i j} : SE (gx X T) Wx X (.Constant (.int i) j pos) (eC (.int i)) := se_c pe_int fun _ _ => .int i
theorem se_bl {i j} : SE (gx X T) Wx X (.Constant (.bool i) j pos) (eC (.bool i)) := se_c pe_bl fun _ _ => .bl i
theorem se_non {j} : SE (gx X T) Wx X (.Constant .none j pos) (eC .none) := se_c pe_non fun _ _ => .non
theorem se_str {i j} : SE (gx X T) Wx X (.Constant (.str i) j pos) (eC (.str i)) := se_c pe_str fun _ _ => .str i
/-- a module's constant -/
theorem se_glob {v : V} {u : Value} {d : D} (hg : Gl X x) (hm : X.mg x = some u) (r : RelV v u) (rd : ∀ F, Rep X.K F v d) (hd : (x == ("__debug__" : Str)) = false := by decide) : SE (gx X T) Wx X (.Name x pos) (eC d) :=
  PE.imp (pe_glob hg hm r hd) fun σ H Q ⟨F, ad, ρ, w, a0, p⟩ => p F H a0.hp Grow.refl v (rd _)
end

/-! ### argument lists, displays -/
section
variable {X : Cx} {T : Addr → Prop} {Wx : WX} {e : Expr} {es : List Expr} {fe : Ef} {fs : Ev → Wd → R (List D)} {pos : Pos}
abbrev SL (G : Gx) (Wx : WX) (X : Cx) (es : List Expr) (f : Ev → Wd → R (List D)) : Prop := PA X es (tL G Wx f)
def lN : Ev → Wd → R (List D) := fun _ w => .ok [] w
def lC (fe : Ef) (fs : Ev → Wd → R (List D)) : Ev → Wd → R (List D) := fun ρ w => (fe ρ w).bind fun d w1 => (fs ρ w1).bind fun ds w2 => .ok (d :: ds) w2
theorem sl_nil : SL (gx X T) Wx X [] lN := PA.imp pa_nil fun σ H Q ⟨F, ad, ρ, w, a0, p⟩ => p F H a0.hp Grow.refl [] .nil
theorem sl_cons (he : SE (gx X T) Wx X e fe) (hs : SL (gx X T) Wx X es fs) (hst : starEach (e :: es) X.env = (false, eval e X.env) :: starEach es X.env := by rfl) : SL (gx X T) Wx X (e :: es) (lC fe fs) :=
  PA.imp (pa_cons he hs hst) fun σ H Q ⟨F, ad, ρ, w, a0, p⟩ => unE_in a0 p fun F1 H1 w1 x dx a1 g1 rx p1 =>
    ⟨F1, ad, ρ, w1, a1, (p1.bind a1.hp).imp fun ds w2 F2 H2 h2 g2 p2 vs r => p2 F2 H2 h2 Grow.refl (x :: vs) (.cons (rx.mono g2.mono) r)⟩
def eTup (fs : Ev → Wd → R (List D)) : Ef := fun ρ w => (fs ρ w).bind fun ds w1 => if ds.length ≤ sizeLine then .ok (.tuple ds) w1 else .bad
def oLst (fs : Ev → Wd → R (List D)) : Ev → Wd → R (List D) := fun ρ w => (fs ρ w).bind fun ds w1 => if ds.length ≤ sizeLine then .ok ds w1 else .bad
theorem lst_in {G : Gx} {σ : St} {F H : Hp} {ad : Option Addr} {ρ : Ev} {w : Wd} {β : Type} {k : List D → Wd → R β} {P : β → Wd → Hp → Hp → Prop} {Z : List V → Hp → Prop} (a0 : At G F ad σ H ρ w) (h : Post G Wx σ F ad H P ((fs ρ w).bind k))
    (hv : ∀ F1 H1 w1 xs ds, At G F1 ad σ H1 ρ w1 → Grow G ad F H F1 H1 → RepL G.K F1 xs ds → Post G Wx σ F1 ad H1 P (k ds w1) → Z xs H1) : tL G Wx fs σ H Z :=
  ⟨F, ad, ρ, w, a0, (h.bind a0.hp).imp fun d w1 F1 H1 h1 g1 p v r => hv F1 H1 w1 v d (a0.grow h1 g1) g1 r p⟩
theorem se_tup {x1} (h : SL (gx X T) Wx X es fs) : SE (gx X T) Wx X (.Tuple es x1 pos) (eTup fs) :=
  PE.imp (DT.pe_tupN h) fun σ H Q ⟨F, ad, ρ, w, a0, p⟩ => lst_in a0 p fun F1 H1 w1 xs ds a1 g1 r p1 => by
    by_cases hz : ds.length ≤ sizeLine
    · rw [if_pos hz] at p1
      refine ⟨by rw [r.length]; exact hz, fun q o hq nt => ?_⟩
      obtain ⟨h2, g2⟩ := a1.hp.newF (o := o) hq
      exact p1 _ _ h2 g2 _ (.tup (.inl ⟨o, upd_same, nt⟩) (r.mono g2.mono))
    · rw [if_neg hz] at p1; exact p1.elim
theorem so_lst (h : SL (gx X T) Wx X es fs) : SO (gx X T) Wx X (.List es pos) (oLst fs) :=
  PE.imp (pe_lst h) fun σ H Q ⟨F, ad, ρ, w, a0, p⟩ => lst_in a0 p fun F1 H1 w1 xs ds a1 g1 r p1 => by
    by_cases hz : ds.length ≤ sizeLine
    · rw [if_pos hz] at p1
      refine ⟨by rw [r.length]; exact hz, fun q hq => ?_⟩
      obtain ⟨h2, g2⟩ := a1.hp.new (o := .lst xs) hq
      have hH : H q = none := by
        cases z : H q with
        | none => rfl
        | some o => exact absurd hq (by
            by_cases ht : T q
            · exact a1.hp.tN q ht
            · by_cases hd : ad = some q
              · exact a1.hp.dN q hd
              · rw [g1.keep q o z ht hd]; exact fun y => by cases y)
      have hF : F1 q = none := by
        cases z : F1 q with
        | none => rfl
        | some o => rw [a1.hp.sub q o z] at hq; cases hq
      exact p1 _ _ h2 g2 q xs hH upd_same hF r
    · rw [if_neg hz] at p1; exact p1.elim
/-- a new list is frozen -/
def eFz (fo : Ev → Wd → R (List D)) : Ef := fun ρ w => (fo ρ w).bind fun ds w1 => .ok (.list ds) w1
theorem HeapOk.freeze {G : Gx} {F H : Hp} {ad : Option Addr} {w : Wd} {a : Addr} {vs : List V} (h : HeapOk G F ad H w) (e : H a = some (.lst vs)) (n : F a = none) (hd : ad ≠ some a) : HeapOk G (upd F a (.lst vs)) ad H w := by
  have mono : ∀ b o', F b = some o' → upd F a (.lst vs) b = some o' := fun b o' q => by rw [upd_ne (ne_of_none q n)]; exact q
  refine ⟨fun b o q => ?_, fun b q => ?_, fun b q => ?_, h.tab, fun b q => ?_⟩
  · by_cases hb : b = a
    · subst hb; rw [upd_same] at q; rw [e]; exact q
    · rw [upd_ne hb] at q; exact h.sub b o q
  · by_cases hb : b = a
    · subst hb; exact notT h e fun ps z => by cases z
    · rw [upd_ne hb] at q; exact h.noT b q
  · by_cases hb : b = a
    · subst hb; exact hd
    · rw [upd_ne hb] at q; exact h.noD b q
  · obtain ⟨us, h1, h2⟩ := h.dr b q
    exact ⟨us, h1, h2.mono mono⟩
theorem se_of {fo : Ev → Wd → R (List D)} (h : SO (gx X T) Wx X e fo) : SE (gx X T) Wx X e (eFz fo) :=
  PE.imp h fun σ H Q ⟨F, ad, ρ, w, a0, p⟩ => ⟨F, ad, ρ, w, a0, by
    unfold eFz at p
    cases q : fo ρ w with
    | bad => rw [q] at p; exact p
    | exc c w1 => rw [q] at p; exact p
    | ok ds w1 =>
      rw [q] at p
      intro F1 H1 h1 g1 a vs ha e n r
      have hd : ad ≠ some a := fun z => a0.hp.dN a z ha
      have mono : ∀ b o', F1 b = some o' → upd F1 a (.lst vs) b = some o' := fun b o' q => by rw [upd_ne (ne_of_none q n)]; exact q
      refine p (upd F1 a (.lst vs)) H1 (h1.freeze e n hd) ⟨fun b o' q => mono b o' (g1.mono b o' q), g1.keep, fun b q1 q2 => ?_⟩ (.ref a) (.lst upd_same (r.mono mono))
      rw [upd_ne fun z => by subst z; exact q1 ha]
      exact g1.nf b q1 q2⟩
end
end DL

set_option Elab.async false
set_option linter.all false
set_option maxRecDepth 100000
set_option maxHeartbeats 2000000
namespace DL
open PySem PySem.Spec PySem.SeqAt PySem.W L2 DT

section
variable {X : Cx} {T : Addr → Prop}

/-- the answer is a flat value, the heap as it was -/
theorem fin0 {F H : Hp} {ad : Option Addr} {w : Wd} {Q : VK} {d : D} {v : V} (hp : HeapOk (gx X T) F ad H w) (q : ∀ v F' H', HeapOk (gx X T) F' ad H' w → Grow (gx X T) ad F H F' H' → Rep X.K F' v d → Q v H') (r : Rep X.K F v d) : Q v H := q v F H hp Grow.refl r
/-- the answer is a new tuple, a new list -/
theorem finT {F H : Hp} {ad : Option Addr} {w : Wd} {Q : VK} {ds : List D} {vs : List V} (hp : HeapOk (gx X T) F ad H w) (q : ∀ v F' H', HeapOk (gx X T) F' ad H' w → Grow (gx X T) ad F H F' H' → Rep X.K F' v (.tuple ds) → Q v H') (r : RepL X.K F vs ds) :
    ∀ p o, H p = none → NT vs o → Q (.ref p) (upd H p o) := fun p o hn nt => by
  obtain ⟨h2, g2⟩ := hp.newF (o := o) hn
  exact q _ _ _ h2 g2 (.tup (.inl ⟨o, upd_same, nt⟩) (r.mono g2.mono))
theorem finL {F H : Hp} {ad : Option Addr} {w : Wd} {Q : VK} {ds : List D} {vs : List V} (hp : HeapOk (gx X T) F ad H w) (q : ∀ v F' H', HeapOk (gx X T) F' ad H' w → Grow (gx X T) ad F H F' H' → Rep X.K F' v (.list ds) → Q v H') (r : RepL X.K F vs ds) :
    ∀ p, H p = none → Q (.ref p) (upd H p (.lst vs)) := fun p hn => by
  obtain ⟨h2, g2⟩ := hp.newF (o := .lst vs) hn
  exact q _ _ _ h2 g2 (.lst upd_same (r.mono g2.mono))

def dAdd : D → D → Option D
  | .int i, .int j => some (.int (i + j))
  | .list xs, .list ys => if xs.length + ys.length ≤ sizeLine then some (.list (xs ++ ys)) else none
  | .tuple xs, .tuple ys => if xs.length + ys.length ≤ sizeLine then some (.tuple (xs ++ ys)) else none
  | .str x, .str y => if x.length + y.length ≤ sizeLine then some (.str (x ++ y)) else none
  | _, _ => none
theorem od_add : OpD X T (binaryOp .Add) dAdd := by
  intro pins s σ H x y v u Q F ad w dx dy d I rx ry hp bx bY e q
  unfold dAdd at e
  split at e
  · cases e
    rw [bx.int] at rx
    rw [bY.int] at ry
    exact op_add pins s σ H _ _ v u Q I rx ry ⟨_, _, rfl, rfl, fin0 hp q (.int _)⟩
  · rename_i xs ys
    split at e
    · cases e
      obtain ⟨a, vs, rfl, ha, ra⟩ := bx.list hp
      obtain ⟨b, us, rfl, hb, rb⟩ := bY.list hp
      exact op_cat pins s σ H _ _ v u Q I rx ry ⟨a, b, vs, us, rfl, rfl, ha, hb, by rw [ra.length, rb.length]; assumption, finL hp q (ra.append rb)⟩
    · cases e
  · rename_i xs ys
    split at e
    · cases e
      obtain ⟨a, vs, rfl, ha, ra⟩ := bx.tup hp
      obtain ⟨b, us, rfl, hb, rb⟩ := bY.tup hp
      have sx : Rep X.K F (.ref a) (.tuple xs) := by rcases bx with h | ⟨_, h, _⟩ | ⟨_, h, _⟩ <;> first | exact h | cases h
      have sy : Rep X.K F (.ref b) (.tuple ys) := by rcases bY with h | ⟨_, h, _⟩ | ⟨_, h, _⟩ <;> first | exact h | cases h
      refine op_catN pins s σ H _ _ v u Q I rx ry ⟨a, b, vs, us, rfl, rfl, ha, hb, by rw [ra.length, rb.length]; assumption, fun z => ?_, fun z => ?_, finT hp q (ra.append rb)⟩
      · subst z; cases ra; exact fin0 hp q (by simpa using sy)
      · subst z; cases rb; exact fin0 hp q (by simpa using sx)
    · cases e
  · split at e
    · cases e
      rw [bx.str] at rx
      rw [bY.str] at ry
      exact op_add_str pins s σ H _ _ v u Q I rx ry ⟨_, _, rfl, rfl, by assumption, fin0 hp q (.str _)⟩
    · cases e
  · cases e
/-- two ints, an int -/
theorem od_int {f : Value → Value → Sem Value} {C : Int → Int → Prop} {g : Int → Int → Int} {go : D → D → Option D} (h : OpR X f (rI C fun i j => .int (g i j)))
    (hg : ∀ dx dy d, go dx dy = some d → ∃ i j, dx = .int i ∧ dy = .int j ∧ C i j ∧ d = .int (g i j)) : OpD X T f go := by
  intro pins s σ H x y v u Q F ad w dx dy d I rx ry hp bx bY e q
  obtain ⟨i, j, rfl, rfl, c, rfl⟩ := hg dx dy d e
  rw [bx.int] at rx
  rw [bY.int] at ry
  exact h pins s σ H _ _ v u Q I rx ry ⟨i, j, rfl, rfl, c, fin0 hp q (.int _)⟩
theorem od_int0 {f : Value → Value → Sem Value} {g : Int → Int → Int} {go : D → D → Option D} (h : OpR X f (rI0 fun i j => .int (g i j)))
    (hg : ∀ dx dy d, go dx dy = some d → ∃ i j, dx = .int i ∧ dy = .int j ∧ d = .int (g i j)) : OpD X T f go := by
  intro pins s σ H x y v u Q F ad w dx dy d I rx ry hp bx bY e q
  obtain ⟨i, j, rfl, rfl, rfl⟩ := hg dx dy d e
  rw [bx.int] at rx
  rw [bY.int] at ry
  exact h pins s σ H _ _ v u Q I rx ry ⟨i, j, rfl, rfl, fin0 hp q (.int _)⟩
def onI (c : Int → Int → Bool) (g : Int → Int → Int) : D → D → Option D
  | .int i, .int j => if c i j = true then some (.int (g i j)) else none
  | _, _ => none
theorem onI_out {c : Int → Int → Bool} {g : Int → Int → Int} : ∀ dx dy d, onI c g dx dy = some d → ∃ i j, dx = .int i ∧ dy = .int j ∧ c i j = true ∧ d = .int (g i j) := by
  intro dx dy d e
  unfold onI at e
  split at e
  · split at e
    · cases e; exact ⟨_, _, rfl, rfl, by assumption, rfl⟩
    · cases e
  · cases e
def dSub : D → D → Option D := onI (fun _ _ => true) (· - ·)
theorem od_sub : OpD X T (binaryOp .Sub) dSub := od_int0 op_sub fun dx dy d e => let ⟨i, j, h1, h2, _, h3⟩ := onI_out dx dy d e; ⟨i, j, h1, h2, h3⟩
def mulOk (i j : Int) : Bool := decide (i.natAbs < 18446744073709551616) || decide (j.natAbs < 18446744073709551616) || decide (i.natAbs.log2 + j.natAbs.log2 < 1000000)
def repOk (k : Int) (n : Nat) : Bool := decide (-(2 ^ 63) ≤ k) && decide (k < 2 ^ 63) && decide (n * k.toNat ≤ sizeLine)
def rep {α : Type} (k : Int) (xs : List α) : List α := (List.replicate k.toNat xs).flatten
def dMul : D → D → Option D
  | .int i, .int j => if mulOk i j = true then some (.int (i * j)) else none
  | .list xs, .int k => if repOk k xs.length = true then some (.list (rep k xs)) else none
  | .tuple xs, .int k => if xs ≠ [] ∧ 2 ≤ k ∧ k ≤ 1000 ∧ xs.length ≤ 1000 then some (.tuple (rep k xs)) else if k = 1 then some (.tuple xs) else none
  | _, _ => none
theorem od_mul : OpD X T (binaryOp .Mult) dMul := by
  intro pins s σ H x y v u Q F ad w dx dy d I rx ry hp bx bY e q
  unfold dMul at e
  split at e
  · rename_i i j
    split at e
    · rename_i hm
      cases e
      rw [bx.int] at rx
      rw [bY.int] at ry
      by_cases h1 : i.natAbs < 18446744073709551616
      · exact op_mul pins s σ H _ _ v u Q I rx ry ⟨_, _, rfl, rfl, .inl (by constructor <;> omega), fin0 hp q (.int _)⟩
      · by_cases h2 : j.natAbs < 18446744073709551616
        · exact op_mul pins s σ H _ _ v u Q I rx ry ⟨_, _, rfl, rfl, .inr (by constructor <;> omega), fin0 hp q (.int _)⟩
        · have h3 : i.natAbs.log2 + j.natAbs.log2 < 1000000 := by simpa [mulOk, h1, h2] using hm
          exact op_mulW pins s σ H _ _ v u Q I rx ry ⟨_, _, rfl, rfl, h3, fin0 hp q (.int _)⟩
    · cases e
  · rename_i xs k
    split at e
    · rename_i hm
      cases e
      obtain ⟨a, vs, rfl, ha, ra⟩ := bx.list hp
      rw [bY.int] at ry
      have hm' : (-(2 ^ 63) ≤ k ∧ k < 2 ^ 63) ∧ xs.length * k.toNat ≤ sizeLine := by simpa [repOk] using hm
      exact op_rep pins s σ H _ _ v u Q I rx ry ⟨a, k, vs, rfl, rfl, ha, hm'.1.1, hm'.1.2, by rw [ra.length]; exact hm'.2, finL hp q (ra.flatRep _)⟩
    · cases e
  · rename_i xs k
    split at e
    · rename_i hm
      cases e
      obtain ⟨a, vs, rfl, ha, ra⟩ := bx.tup hp
      rw [bY.int] at ry
      exact op_repN pins s σ H _ _ v u Q I rx ry ⟨a, k, vs, rfl, rfl, ha, fun z => hm.1 (by subst z; cases ra; rfl), hm.2.1, hm.2.2.1, by rw [ra.length]; exact hm.2.2.2, finT hp q (ra.flatRep _)⟩
    · split at e
      · rename_i hk
        cases e
        subst hk
        have sx : Rep X.K F x (.tuple xs) := by rcases bx with h | ⟨_, h, _⟩ | ⟨_, h, _⟩ <;> first | exact h | cases h
        rw [bY.int] at ry
        obtain ⟨a, vs, rfl, ha, ra⟩ := bx.tup hp
        exact op_rep1 pins s σ H _ _ v u Q I rx ry ⟨a, vs, rfl, rfl, ha, fin0 hp q sx⟩
      · cases e
  · cases e
def divOk (_ j : Int) : Bool := decide (j ≠ 0) && (decide (j.natAbs < 1073741824) || (decide (0 < j) && decide (j.natAbs.log2 < 9000)))
def dFdiv : D → D → Option D := onI divOk Int.fdiv
theorem od_fdiv : OpD X T (binaryOp .FloorDiv) dFdiv := by
  intro pins s σ H x y v u Q F ad w dx dy d I rx ry hp bx bY e q
  obtain ⟨i, j, rfl, rfl, c, rfl⟩ := onI_out dx dy d e
  rw [bx.int] at rx
  rw [bY.int] at ry
  have hc : j ≠ 0 ∧ (j.natAbs < 1073741824 ∨ (0 < j ∧ j.natAbs.log2 < 9000)) := by simpa [divOk] using c
  rcases hc.2 with h | h
  · exact op_fdivN pins s σ H _ _ v u Q I rx ry ⟨i, j, rfl, rfl, ⟨hc.1, h⟩, fin0 hp q (.int _)⟩
  · refine op_fdivW pins s σ H _ _ v u Q I rx ry ⟨i, j, rfl, rfl, ⟨h.1, h.2⟩, fin0 hp q ?_⟩
    rw [Int.fdiv_eq_ediv_of_nonneg i (by omega)]
    exact .int _
def dMod : D → D → Option D := onI (fun _ j => decide (j ≠ 0)) Int.fmod
theorem od_mod : OpD X T (binaryOp .Mod) dMod := od_int op_modN fun dx dy d e => let ⟨i, j, h1, h2, c, h3⟩ := onI_out dx dy d e; ⟨i, j, h1, h2, of_decide_eq_true c, h3⟩
def powOk (i j : Int) : Bool := decide (0 ≤ j) && decide (j ≤ 1000000) && decide (i.natAbs < 18446744073709551616)
def dPow : D → D → Option D := onI powOk fun i j => i ^ j.toNat
theorem od_pow : OpD X T (binaryOp .Pow) dPow := od_int op_pow fun dx dy d e => let ⟨i, j, h1, h2, c, h3⟩ := onI_out dx dy d e; ⟨i, j, h1, h2, by
  have c' : (0 ≤ j ∧ j ≤ 1000000) ∧ i.natAbs < 18446744073709551616 := by simpa [powOk] using c
  exact ⟨c'.1.1, c'.1.2, c'.2⟩, h3⟩
def dShl : D → D → Option D := onI powOk fun i j => i * 2 ^ j.toNat
theorem od_shl : OpD X T (binaryOp .LShift) dShl := od_int op_shl fun dx dy d e => let ⟨i, j, h1, h2, c, h3⟩ := onI_out dx dy d e; ⟨i, j, h1, h2, by
  have c' : (0 ≤ j ∧ j ≤ 1000000) ∧ i.natAbs < 18446744073709551616 := by simpa [powOk] using c
  exact ⟨c'.1.1, c'.1.2, c'.2⟩, h3⟩
def dShr : D → D → Option D := onI (fun _ j => decide (0 ≤ j)) fun i j => i / 2 ^ j.toNat
theorem od_shr : OpD X T (binaryOp .RShift) dShr := od_int op_shr fun dx dy d e => let ⟨i, j, h1, h2, c, h3⟩ := onI_out dx dy d e; ⟨i, j, h1, h2, of_decide_eq_true c, h3⟩
def dAnd : D → D → Option D := onI (fun _ _ => true) Builtin.bitAnd
theorem od_and : OpD X T (binaryOp .BitAnd) dAnd := od_int0 op_and fun dx dy d e => let ⟨i, j, h1, h2, _, h3⟩ := onI_out dx dy d e; ⟨i, j, h1, h2, h3⟩
def dXor : D → D → Option D := onI (fun _ _ => true) Builtin.bitXor
theorem od_xor : OpD X T (binaryOp .BitXor) dXor := od_int0 op_xor fun dx dy d e => let ⟨i, j, h1, h2, _, h3⟩ := onI_out dx dy d e; ⟨i, j, h1, h2, h3⟩

/-! comparisons -/
def onB (g : Int → Int → Bool) : D → D → Option D
  | .int i, .int j => some (.bool (g i j))
  | _, _ => none
theorem od_ordI {f : Value → Value → Sem Value} {g : Int → Int → Bool} (h : OpR X f (rI0 fun i j => .bl (g i j))) : OpD X T f (onB g) := by
  intro pins s σ H x y v u Q F ad w dx dy d I rx ry hp bx bY e q
  unfold onB at e
  split at e
  · cases e
    rw [bx.int] at rx
    rw [bY.int] at ry
    exact h pins s σ H _ _ v u Q I rx ry ⟨_, _, rfl, rfl, fin0 hp q (.bl _)⟩
  · cases e
def dLt : D → D → Option D := onB fun i j => decide (i < j)
def dLe : D → D → Option D := onB fun i j => decide (i ≤ j)
def dGt : D → D → Option D := onB fun i j => decide (j < i)
def dGe : D → D → Option D := onB fun i j => decide (j ≤ i)
theorem od_lt : OpD X T (compareOp .Lt) dLt := od_ordI op_lt
theorem od_le : OpD X T (compareOp .LtE) dLe := od_ordI op_le
theorem od_gt : OpD X T (compareOp .Gt) dGt := od_ordI op_gt
theorem od_ge : OpD X T (compareOp .GtE) dGe := od_ordI op_ge
/-- read as data -/
theorem RepB.reads {pins : List (Addr × Obj)} {σ : St} {H : Hp} {s : Shared} {F : Hp} {ad : Option Addr} {w : Wd} {x : V} {v : Value} {d : D} (I : Inv X pins σ H s) (hp : HeapOk (gx X T) F ad H w) (r : RepB (gx X T) F ad H x d) (p : d.plain = true) (rv : RelV x v) :
    ∃ as, Reads s.heap v d as := Dp.reads I d x v (r.dp hp p) rv
/-- == -/
def eqOk (a b : D) : Bool := a.plain && b.plain && decide (min a.depth b.depth ≤ 64)
def dEq (a b : D) : Option D := if eqOk a b = true then some (.bool (PyData.eqv a b)) else none
def dNe (a b : D) : Option D := if eqOk a b = true then some (.bool (!PyData.eqv a b)) else none
theorem eqOk_out {a b : D} (h : eqOk a b = true) : a.plain = true ∧ b.plain = true ∧ min a.depth b.depth ≤ 64 := by
  unfold eqOk at h
  rw [Bool.and_eq_true_iff, Bool.and_eq_true_iff] at h
  exact ⟨h.1.1, h.1.2, of_decide_eq_true h.2⟩
theorem od_eq (hu : X.A.units + 100 < cLine) : OpD X T (compareOp .Eq) dEq := by
  intro pins s σ H x y v u Q F ad w dx dy d I rx ry hp bx bY e q
  unfold dEq at e
  split at e
  · rename_i h
    cases e
    obtain ⟨h1, h2, h3⟩ := eqOk_out h
    obtain ⟨as, r1⟩ := bx.reads I hp h1 rx
    obtain ⟨bs, r2⟩ := bY.reads I hp h2 ry
    exact eq_plain r1 r2 h1 h2 (by omega) ⟨.bl _, H, I, rfl, fin0 hp q (.bl _)⟩
  · cases e
theorem od_ne (hu : X.A.units + 100 < cLine) : OpD X T (compareOp .NotEq) dNe := by
  intro pins s σ H x y v u Q F ad w dx dy d I rx ry hp bx bY e q
  unfold dNe at e
  split at e
  · rename_i h
    cases e
    obtain ⟨h1, h2, h3⟩ := eqOk_out h
    obtain ⟨as, r1⟩ := bx.reads I hp h1 rx
    obtain ⟨bs, r2⟩ := bY.reads I hp h2 ry
    exact ne_plain r1 r2 h1 h2 (by omega) ⟨.bl _, H, I, rfl, fin0 hp q (.bl _)⟩
  · cases e
/-- in a list, in a tuple -/
def inOk (a : D) (xs : List D) : Bool := a.plain && PyData.plainAll xs && decide (min (PyData.depthAll xs) a.depth ≤ 64)
def dIn : D → D → Option D
  | a, .list xs => if inOk a xs = true then some (.bool (xs.any fun z => PyData.eqv z a)) else none
  | a, .tuple xs => if inOk a xs = true then some (.bool (xs.any fun z => PyData.eqv z a)) else none
  | _, _ => none
def dNin : D → D → Option D
  | a, .list xs => if inOk a xs = true then some (.bool (!xs.any fun z => PyData.eqv z a)) else none
  | a, .tuple xs => if inOk a xs = true then some (.bool (!xs.any fun z => PyData.eqv z a)) else none
  | _, _ => none
theorem inOk_out {a : D} {xs : List D} (h : inOk a xs = true) : a.plain = true ∧ PyData.plainAll xs = true ∧ min (PyData.depthAll xs) a.depth ≤ 64 := by
  unfold inOk at h
  rw [Bool.and_eq_true_iff, Bool.and_eq_true_iff] at h
  exact ⟨h.1.1, h.1.2, of_decide_eq_true h.2⟩
theorem od_in (hu : X.A.units + 100 < cLine) : OpD X T (compareOp .In) dIn := by
  intro pins s σ H x y v u Q F ad w dx dy d I rx ry hp bx bY e q
  unfold dIn at e
  split at e
  · split at e
    · rename_i h
      cases e
      obtain ⟨h1, h2, h3⟩ := inOk_out h
      obtain ⟨as, r1⟩ := bx.reads I hp h1 rx
      obtain ⟨bs, r2⟩ := bY.reads I hp (by simpa [PyData.plain] using h2) ry
      exact in_list_data r2 r1 h2 h1 (by omega) ⟨.bl _, H, I, rfl, fin0 hp q (.bl _)⟩
    · cases e
  · split at e
    · rename_i h
      cases e
      obtain ⟨h1, h2, h3⟩ := inOk_out h
      obtain ⟨as, r1⟩ := bx.reads I hp h1 rx
      obtain ⟨bs, r2⟩ := bY.reads I hp (by simpa [PyData.plain] using h2) ry
      exact in_tuple_data r2 r1 h2 h1 (by omega) ⟨.bl _, H, I, rfl, fin0 hp q (.bl _)⟩
    · cases e
  · cases e
theorem od_nin (hu : X.A.units + 100 < cLine) : OpD X T (compareOp .NotIn) dNin := by
  intro pins s σ H x y v u Q F ad w dx dy d I rx ry hp bx bY e q
  unfold dNin at e
  split at e
  · split at e
    · rename_i h
      cases e
      obtain ⟨h1, h2, h3⟩ := inOk_out h
      obtain ⟨as, r1⟩ := bx.reads I hp h1 rx
      obtain ⟨bs, r2⟩ := bY.reads I hp (by simpa [PyData.plain] using h2) ry
      exact notIn_list_data r2 r1 h2 h1 (by omega) ⟨.bl _, H, I, rfl, fin0 hp q (.bl _)⟩
    · cases e
  · split at e
    · rename_i h
      cases e
      obtain ⟨h1, h2, h3⟩ := inOk_out h
      obtain ⟨as, r1⟩ := bx.reads I hp h1 rx
      obtain ⟨bs, r2⟩ := bY.reads I hp (by simpa [PyData.plain] using h2) ry
      exact notIn_tuple_data r2 r1 h2 h1 (by omega) ⟨.bl _, H, I, rfl, fin0 hp q (.bl _)⟩
    · cases e
  · cases e
/-- is None, is True, is False -/
def isNon : D → Bool
  | .none => true
  | _ => false
def dIs : D → D → Option D
  | d, .none => some (.bool (isNon d))
  | .bool a, .bool b => some (.bool (a == b))
  | _, _ => none
def dNis : D → D → Option D
  | d, .none => some (.bool (!isNon d))
  | .bool a, .bool b => some (.bool (a != b))
  | _, _ => none
theorem isNone_V {F H : Hp} {ad : Option Addr} {w : Wd} {x : V} {d : D} (hp : HeapOk (gx X T) F ad H w) (r : RepB (gx X T) F ad H x d) : decide (x = .non) = isNon d := by
  rcases r with r | ⟨ds, rfl, a, vs, rfl, _⟩ | ⟨kvs, rfl, a, o, rfl, _⟩
  · cases r <;> simp [isNon]
  · simp [isNon]
  · simp [isNon]
theorem od_is : OpD X T (compareOp .Is) dIs := by
  intro pins s σ H x y v u Q F ad w dx dy d I rx ry hp bx bY e q
  unfold dIs at e
  split at e
  · cases e
    rw [bY.none] at ry
    exact op_isN pins s σ H _ _ v u Q I rx ry ⟨rfl, by rw [isNone_V hp bx]; exact fin0 hp q (.bl _)⟩
  · cases e
    rw [bx.bool] at rx
    rw [bY.bool] at ry
    exact op_isBl pins s σ H _ _ v u Q I rx ry ⟨_, _, rfl, rfl, by rw [← Bool.beq_eq_decide_eq]; exact fin0 hp q (.bl _)⟩
  · cases e
theorem od_nis : OpD X T (compareOp .IsNot) dNis := by
  intro pins s σ H x y v u Q F ad w dx dy d I rx ry hp bx bY e q
  unfold dNis at e
  split at e
  · rename_i dd
    cases e
    rw [bY.none] at ry
    refine op_notN pins s σ H _ _ v u Q I rx ry ⟨rfl, ?_⟩
    rw [isNone_V hp bx]
    exact fin0 hp q (.bl _)
  · cases e
    rw [bx.bool] at rx
    rw [bY.bool] at ry
    exact op_notBl pins s σ H _ _ v u Q I rx ry ⟨_, _, rfl, rfl, by rw [← Bool.beq_eq_decide_eq]; exact fin0 hp q (.bl _)⟩
  · cases e
end
end DL

set_option Elab.async false
set_option linter.all false
set_option maxRecDepth 100000
set_option maxHeartbeats 2000000
namespace DL
open PySem PySem.Spec PySem.SeqAt PySem.W L2 DT

/-! ### subscripts and slices -/
theorem RepB.tupR {G : Gx} {F H : Hp} {ad : Option Addr} {v : V} {ds : List D} (h : RepB G F ad H v (.tuple ds)) : Rep G.K F v (.tuple ds) := by
  rcases h with h | ⟨_, h, _⟩ | ⟨_, h, _⟩
  · exact h
  · cases h
  · cases h
theorem RepL.atI {K : PySem.W.Frag} {F : Hp} {vs : List V} {ds : List D} {i : Int} {d : D} (h : RepL K F vs ds) (e : L2.atI ds i = some d) : ∃ v, L2.atI vs i = some v ∧ Rep K F v d := by
  unfold L2.atI at e ⊢
  rw [h.length]
  cases q : ixN ds.length i with
  | none => rw [q] at e; cases e
  | some j =>
    rw [q] at e
    obtain ⟨v, h1, h2⟩ := h.get j (show ds[j]? = some d from e)
    exact ⟨v, h1, h2⟩
def cut {α : Type} (xs : List α) (lo hi : Option Int) : List α := (xs.drop (HT.sIx xs.length 0 lo)).take (HT.sIx xs.length xs.length hi - HT.sIx xs.length 0 lo)
theorem RepL.cut {K : PySem.W.Frag} {F : Hp} {vs : List V} {ds : List D} (h : RepL K F vs ds) (lo hi : Option Int) : RepL K F (cutV vs lo hi) (cut ds lo hi) := by
  unfold cutV DL.cut
  rw [h.length]
  exact (h.drop _).take _
section
variable {X : Cx} {T : Addr → Prop} {Wx : WX} {a b c e : Expr} {fa fb fc : Ef} {pos p2 : Pos}
def dIx : D → D → Option D
  | .list ds, .int i => L2.atI ds i
  | .tuple ds, .int i => L2.atI ds i
  | _, _ => none
theorem ix_d : IxR X (rD X T dIx) := by
  intro value slice pins s σ H x y v u Q I rx ry ⟨F, ad, w, dx, dy, d, hp, bx, bY, e, q⟩ hs
  unfold dIx at e
  split at e
  · obtain ⟨a, vs, rfl, ha, ra⟩ := bx.list hp
    rw [bY.int] at ry
    obtain ⟨z, h1, h2⟩ := ra.atI e
    exact ix_list value slice pins s σ H _ _ v u Q I rx ry ⟨a, vs, _, z, rfl, rfl, SqL.of ha, h1, fin0 hp q h2⟩ hs
  · obtain ⟨a, vs, rfl, ha, ra⟩ := bx.tup hp
    rw [bY.int] at ry
    obtain ⟨z, h1, h2⟩ := ra.atI e
    exact ix_tup value slice pins s σ H _ _ v u Q I rx ry ⟨a, vs, _, z, rfl, rfl, ha, h1, fin0 hp q h2⟩ hs
  · cases e
theorem se_ix (ha : SB (gx X T) Wx X a fa) (hb : SB (gx X T) Wx X b fb) (hs : PlainIx b := by exact fun _ _ => rfl) : SE (gx X T) Wx X (.Subscript a b pos) (eBin dIx fa fb) :=
  PE.imp (pe_ix ix_d ha hb hs) fun σ H Q ⟨F, ad, ρ, w, a0, p⟩ => bin_in a0 p fun F1 H1 w1 x y dx dy a1 _ rx ry p1 => rD_in a1.hp rx ry p1
/-- a slice's part -/
def tP (G : Gx) (Wx : WX) (f : Ev → Wd → R (Option Int)) : TO := fun σ H Q => ∃ F ad ρ w, At G F ad σ H ρ w ∧ Post G Wx σ F ad H (fun o _ _ H' => Q o H') (f ρ w)
theorem PO.imp {X : Cx} {e : Option Expr} {t t' : TO} (h : PO X e t) (i : ∀ σ H Q, t' σ H Q → t σ H Q) : PO X e t' := ⟨fun pins s σ H Q I q => h.run pins s σ H Q I (i σ H Q q)⟩
def pN : Ev → Wd → R (Option Int) := fun _ w => .ok none w
def intOf : D → Option Int
  | .int i => some i
  | _ => none
def pS (fa : Ef) : Ev → Wd → R (Option Int) := fun ρ w => (fa ρ w).bind fun d w1 => R.of w1 ((intOf d).map some)
theorem sp_none : PO X none (tP (gx X T) Wx pN) := PO.imp po_none fun σ H Q ⟨F, ad, ρ, w, a0, p⟩ => p F H a0.hp Grow.refl
theorem sp_some (ha : SB (gx X T) Wx X a fa) : PO X (some a) (tP (gx X T) Wx (pS fa)) := PO.imp (po_some ha) fun σ H Q ⟨F, ad, ρ, w, a0, p⟩ =>
  un_in a0 p fun F1 H1 w1 x dx a1 _ rx p1 => by
    cases dx with
    | int i => exact ⟨i, rx.int, p1 F1 H1 a1.hp Grow.refl⟩
    | _ => exact p1.elim
def dCut (lo hi : Option Int) : D → Option D
  | .list ds => some (.list (cut ds lo hi))
  | .tuple ds => some (.tuple (cut ds lo hi))
  | _ => none
def rCut (X : Cx) (T : Addr → Prop) : V → Option Int → Option Int → Hp → VK → Prop := fun x lo hi H Q => ∃ F ad w dx d, HeapOk (gx X T) F ad H w ∧ RepB (gx X T) F ad H x dx ∧ dCut lo hi dx = some d ∧
  ∀ v F' H', HeapOk (gx X T) F' ad H' w → Grow (gx X T) ad F H F' H' → Rep X.K F' v d → Q v H'
theorem sIx_eq (n : Nat) {lo hi : Option Int} (h1 : HT.sIx n 0 lo = 0) (h2 : HT.sIx n n hi = n) {α : Type} (ds : List α) (hn : ds.length = n) : cut ds lo hi = ds := by
  subst hn
  unfold cut
  rw [h1, h2]
  simp
theorem sl_d : SlR X (rCut X T) := by
  intro pins s σ H x v vl vu lo hi sl Q I rx hs pl pu ⟨F, ad, w, dx, d, hp, bx, e, q⟩
  unfold dCut at e
  split at e
  · cases e
    obtain ⟨a, vs, rfl, ha, ra⟩ := bx.list hp
    exact sl_list pins s σ H _ v vl vu lo hi sl Q I rx hs pl pu ⟨a, vs, rfl, SqL.of ha, finL hp q (ra.cut lo hi)⟩
  · rename_i ds
    cases e
    obtain ⟨a, vs, rfl, ha, ra⟩ := bx.tup hp
    have sx : Rep X.K F (.ref a) (.tuple ds) := by rcases bx with h | ⟨_, h, _⟩ | ⟨_, h, _⟩ <;> first | exact h | cases h
    refine sl_tupN pins s σ H _ v vl vu lo hi sl Q I rx hs pl pu ⟨a, vs, rfl, ha, fun hw => ?_, finT hp q (ra.cut lo hi)⟩
    rw [ra.length] at hw
    rw [sIx_eq ds.length hw.1 hw.2 ds rfl] at q
    exact fin0 hp q sx
  · cases e
def eCut (fa : Ef) (fl fh : Ev → Wd → R (Option Int)) : Ef := fun ρ w => (fa ρ w).bind fun d w1 => (fl ρ w1).bind fun lo w2 => (fh ρ w2).bind fun hi w3 => R.of w3 (dCut lo hi d)
theorem se_cut {lo hi : Option Expr} {fl fh : Ev → Wd → R (Option Int)} (ha : SB (gx X T) Wx X a fa) (hl : PO X lo (tP (gx X T) Wx fl)) (hh : PO X hi (tP (gx X T) Wx fh)) : SE (gx X T) Wx X (.Subscript a (.Slice lo hi none p2) pos) (eCut fa fl fh) :=
  PE.imp (pe_slice sl_d ha hl hh) fun σ H Q ⟨F, ad, ρ, w, a0, p⟩ => un_in a0 p fun F1 H1 w1 x dx a1 _ rx p1 =>
    ⟨F1, ad, ρ, w1, a1, (p1.bind a1.hp).imp fun l w2 F2 H2 h2 g2 p2 => ⟨F2, ad, ρ, w2, a1.grow h2 g2, (p2.bind h2).imp fun h w3 F3 H3 h3 g3 p3 => by
      cases q : dCut l h dx with
      | none => rw [q] at p3; exact p3.elim
      | some d =>
        rw [q] at p3
        exact ⟨F3, ad, w3, dx, d, h3, (rx.grow a1.hp g2).grow h2 g3, q, fun v F' H' h1 g1 r => p3 F' H' h1 g1 v r⟩⟩⟩
end

/-! ### built-in functions by values -/
inductive RepBs (G : Gx) (F : Hp) (ad : Option Addr) (H : Hp) : List V → List D → Prop
  | nil : RepBs G F ad H [] []
  | cons {v : V} {vs : List V} {d : D} {ds : List D} : RepB G F ad H v d → RepBs G F ad H vs ds → RepBs G F ad H (v :: vs) (d :: ds)
theorem RepBs.grow {G : Gx} {F H F' H' : Hp} {ad : Option Addr} {w : Wd} (hp : HeapOk G F ad H w) (g : Grow G ad F H F' H') : ∀ {vs : List V} {ds : List D}, RepBs G F ad H vs ds → RepBs G F' ad H' vs ds
  | _, _, .nil => .nil
  | _, _, .cons r t => .cons (r.grow hp g) (RepBs.grow hp g t)
def tLb (G : Gx) (Wx : WX) (f : Ev → Wd → R (List D)) : TA := fun σ H Q => ∃ F ad ρ w, At G F ad σ H ρ w ∧ Post G Wx σ F ad H (fun ds _ F' H' => ∀ vs, RepBs G F' ad H' vs ds → Q vs H') (f ρ w)
abbrev SLb (G : Gx) (Wx : WX) (X : Cx) (es : List Expr) (f : Ev → Wd → R (List D)) : Prop := PA X es (tLb G Wx f)
section
variable {X : Cx} {T : Addr → Prop} {Wx : WX} {e : Expr} {es : List Expr} {fe : Ef} {fs : Ev → Wd → R (List D)} {pos p : Pos} {x : Str} {id : String}
theorem lb_nil : SLb (gx X T) Wx X [] lN := PA.imp pa_nil fun σ H Q ⟨F, ad, ρ, w, a0, p⟩ => p F H a0.hp Grow.refl [] .nil
theorem lb_cons (he : SB (gx X T) Wx X e fe) (hs : SLb (gx X T) Wx X es fs) (hst : starEach (e :: es) X.env = (false, eval e X.env) :: starEach es X.env := by rfl) : SLb (gx X T) Wx X (e :: es) (lC fe fs) :=
  PA.imp (pa_cons he hs hst) fun σ H Q ⟨F, ad, ρ, w, a0, p⟩ => un_in a0 p fun F1 H1 w1 x dx a1 g1 rx p1 =>
    ⟨F1, ad, ρ, w1, a1, (p1.bind a1.hp).imp fun ds w2 F2 H2 h2 g2 p2 vs r => p2 F2 H2 h2 Grow.refl (x :: vs) (.cons (rx.grow a1.hp g2) r)⟩
theorem lstb_in {G : Gx} {σ : St} {F H : Hp} {ad : Option Addr} {ρ : Ev} {w : Wd} {β : Type} {k : List D → Wd → R β} {P : β → Wd → Hp → Hp → Prop} {Z : List V → Hp → Prop} (a0 : At G F ad σ H ρ w) (h : Post G Wx σ F ad H P ((fs ρ w).bind k))
    (hv : ∀ F1 H1 w1 xs ds, At G F1 ad σ H1 ρ w1 → Grow G ad F H F1 H1 → RepBs G F1 ad H1 xs ds → Post G Wx σ F1 ad H1 P (k ds w1) → Z xs H1) : tLb G Wx fs σ H Z :=
  ⟨F, ad, ρ, w, a0, (h.bind a0.hp).imp fun d w1 F1 H1 h1 g1 p v r => hv F1 H1 w1 v d (a0.grow h1 g1) g1 r p⟩
/-- a call by values: the answer is data -/
def rCD (X : Cx) (T : Addr → Prop) (g : List D → Option D) : List V → Hp → VK → Prop := fun xs H Q => ∃ F ad w ds d, HeapOk (gx X T) F ad H w ∧ RepBs (gx X T) F ad H xs ds ∧ g ds = some d ∧
  ∀ v F' H', HeapOk (gx X T) F' ad H' w → Grow (gx X T) ad F H F' H' → Rep X.K F' v d → Q v H'
/-- the answer is a new list -/
def rCO (X : Cx) (T : Addr → Prop) (g : List D → Option (List D)) : List V → Hp → VK → Prop := fun xs H Q => ∃ F ad w ds es, HeapOk (gx X T) F ad H w ∧ RepBs (gx X T) F ad H xs ds ∧ g ds = some es ∧
  ∀ p vs, H p = none → RepL X.K F vs es → Q (.ref p) (upd H p (.lst vs))
def eCall (g : List D → Option D) (fs : Ev → Wd → R (List D)) : Ef := fun ρ w => (fs ρ w).bind fun ds w1 => R.of w1 (g ds)
def oCall (g : List D → Option (List D)) (fs : Ev → Wd → R (List D)) : Ev → Wd → R (List D) := fun ρ w => (fs ρ w).bind fun ds w1 => R.of w1 (g ds)
theorem rCD_in {g : List D → Option D} {σ : St} {H : Hp} {Q : VK} (h : tD (gx X T) Wx (eCall g fs) σ H Q) : tCB (rCD X T g) (tLb (gx X T) Wx fs) σ H Q := by
  obtain ⟨F, ad, ρ, w, a0, p⟩ := h
  refine lstb_in a0 p fun F1 H1 w1 xs ds a1 g1 r p1 => ?_
  cases q : g ds with
  | none => rw [q] at p1; exact p1.elim
  | some d => rw [q] at p1; exact ⟨F1, ad, w1, ds, d, a1.hp, r, q, fun v F' H' h1 g1 r => p1 F' H' h1 g1 v r⟩
theorem fresh_of {G : Gx} {F H F1 H1 : Hp} {ad : Option Addr} {w w1 : Wd} {q : Addr} (h : HeapOk G F ad H w) (h1 : HeapOk G F1 ad H1 w1) (g1 : Grow G ad F H F1 H1) (hq : H1 q = none) : H q = none ∧ F1 q = none := by
  refine ⟨?_, ?_⟩
  · cases z : H q with
    | none => rfl
    | some o => exact absurd hq (by
        by_cases ht : G.T q
        · exact h1.tN q ht
        · by_cases hd : ad = some q
          · exact h1.dN q hd
          · rw [g1.keep q o z ht hd]; exact fun y => by cases y)
  · cases z : F1 q with
    | none => rfl
    | some o => rw [h1.sub q o z] at hq; cases hq
theorem rCO_in {g : List D → Option (List D)} {σ : St} {H : Hp} {Q : VK} (h : tO (gx X T) Wx (oCall g fs) σ H Q) : tCB (rCO X T g) (tLb (gx X T) Wx fs) σ H Q := by
  obtain ⟨F, ad, ρ, w, a0, p⟩ := h
  refine lstb_in a0 p fun F1 H1 w1 xs ds a1 g1 r p1 => ?_
  cases q : g ds with
  | none => rw [q] at p1; exact p1.elim
  | some d =>
    rw [q] at p1
    refine ⟨F1, ad, w1, ds, d, a1.hp, r, q, fun p vs hp rr => ?_⟩
    obtain ⟨h2, g2⟩ := a1.hp.new (o := .lst vs) hp
    obtain ⟨n1, n2⟩ := fresh_of a0.hp a1.hp g1 hp
    exact p1 _ _ h2 g2 p vs n1 upd_same n2 rr
theorem se_callB {g : List D → Option D} (hc : CallR X (.builtin id) (rCD X T g)) (hg : Gl X x) (hm : X.mg x = none) (hv : bootBuiltins x = some (.builtin id)) (ha : SLb (gx X T) Wx X (e :: es) fs) (hn : x ≠ "__name__" := by decide) (hdb : (x == ("__debug__" : Str)) = false := by decide)
    (he : starEach (e :: es) X.env = (false, eval e X.env) :: starEach es X.env := by rfl) (hpl : (backTo pos (starEach es X.env)).any (·.1) = false := by rfl) : SE (gx X T) Wx X (.Call (.Name x p) (e :: es) [] pos) (eCall g fs) :=
  PE.imp (pe_callB hc hg hm hv ha hn hdb he hpl) fun σ H Q h => rCD_in h
theorem se_callTy {g : List D → Option D} (hc : CallR X (.type id) (rCD X T g)) (hg : Gl X x) (hm : X.mg x = none) (hv : bootBuiltins x = some (.type id)) (ha : SLb (gx X T) Wx X (e :: es) fs) (hn : x ≠ "__name__" := by decide) (hdb : (x == ("__debug__" : Str)) = false := by decide)
    (he : starEach (e :: es) X.env = (false, eval e X.env) :: starEach es X.env := by rfl) (hpl : (backTo pos (starEach es X.env)).any (·.1) = false := by rfl) : SE (gx X T) Wx X (.Call (.Name x p) (e :: es) [] pos) (eCall g fs) :=
  PE.imp (pe_callTy hc hg hm hv ha hn hdb he hpl) fun σ H Q h => rCD_in h
theorem so_callB {g : List D → Option (List D)} (hc : CallR X (.builtin id) (rCO X T g)) (hg : Gl X x) (hm : X.mg x = none) (hv : bootBuiltins x = some (.builtin id)) (ha : SLb (gx X T) Wx X (e :: es) fs) (hn : x ≠ "__name__" := by decide) (hdb : (x == ("__debug__" : Str)) = false := by decide)
    (he : starEach (e :: es) X.env = (false, eval e X.env) :: starEach es X.env := by rfl) (hpl : (backTo pos (starEach es X.env)).any (·.1) = false := by rfl) : SO (gx X T) Wx X (.Call (.Name x p) (e :: es) [] pos) (oCall g fs) :=
  PE.imp (pe_callB hc hg hm hv ha hn hdb he hpl) fun σ H Q h => rCO_in h
theorem so_callTy {g : List D → Option (List D)} (hc : CallR X (.type id) (rCO X T g)) (hg : Gl X x) (hm : X.mg x = none) (hv : bootBuiltins x = some (.type id)) (ha : SLb (gx X T) Wx X (e :: es) fs) (hn : x ≠ "__name__" := by decide) (hdb : (x == ("__debug__" : Str)) = false := by decide)
    (he : starEach (e :: es) X.env = (false, eval e X.env) :: starEach es X.env := by rfl) (hpl : (backTo pos (starEach es X.env)).any (·.1) = false := by rfl) : SO (gx X T) Wx X (.Call (.Name x p) (e :: es) [] pos) (oCall g fs) :=
  PE.imp (pe_callTy hc hg hm hv ha hn hdb he hpl) fun σ H Q h => rCO_in h
/-- an imported built-in function (gcd) -/
theorem se_callF {g : List D → Option D} (hc : CallR X (.builtin id) (rCD X T g)) (hg : Gl X x) (hm : X.mg x = some (.builtin id)) (ha : SLb (gx X T) Wx X (e :: es) fs) (hdb : (x == ("__debug__" : Str)) = false := by decide)
    (he : starEach (e :: es) X.env = (false, eval e X.env) :: starEach es X.env := by rfl) (hpl : (backTo pos (starEach es X.env)).any (·.1) = false := by rfl) : SE (gx X T) Wx X (.Call (.Name x p) (e :: es) [] pos) (eCall g fs) :=
  PE.imp (pe_callBfun hc hg hm ha hdb he hpl) fun σ H Q h => rCD_in h
end

section
variable {X : Cx} {T : Addr → Prop}
def one? : List D → Option D
  | [d] => some d
  | _ => none
def gLen : List D → Option D
  | [.list ds] => some (.int ds.length)
  | [.tuple ds] => some (.int ds.length)
  | [.dict ks] => some (.int ks.length)
  | _ => none
theorem DKp.length {K : PySem.W.Frag} {F : Hp} : ∀ {kvs : List (Key × V)} {kds : List (D × D)}, DKp K F kvs kds → kvs.length = kds.length
  | _, _, .nil => rfl
  | _, _, .cons _ t => congrArg (· + 1) (DKp.length t)
/-- the object of a dict -/
theorem RepB.dict {G : Gx} {F H : Hp} {ad : Option Addr} {w : Wd} {v : V} {kds : List (D × D)} (hp : HeapOk G F ad H w) (h : RepB G F ad H v (.dict kds)) : ∃ a kvs, v = .ref a ∧ Rd H a (.dK kvs) ∧ DKp G.K F kvs kds := by
  rcases h with h | ⟨ds, e, h⟩ | ⟨kvs, e, a, o, h1, _, _, h2, h3⟩
  · cases h with
    | dK e r => exact ⟨_, _, rfl, .inr ⟨_, hp.sub _ _ e⟩, DKp.of r⟩
  · cases e
  · cases e
    obtain ⟨kvs, rfl, p⟩ := h3
    exact ⟨a, kvs, h1, .inl h2, p⟩
theorem cd_len : CallR X (.builtin "len") (rCD X T gLen) := by
  intro pins s σ H xs us Q I r ⟨F, ad, w, ds, d, hp, rb, e, q⟩
  unfold gLen at e
  split at e
  · cases e
    cases rb with
    | cons b t =>
      cases t
      obtain ⟨a, vs, rfl, ha, ra⟩ := b.list hp
      exact call_len_seq pins s σ H _ us Q I r ⟨a, vs, rfl, .inl (SqL.of ha), by rw [ra.length]; exact fin0 hp q (.int _)⟩
  · cases e
    cases rb with
    | cons b t =>
      cases t
      obtain ⟨a, vs, rfl, ha, ra⟩ := b.tup hp
      exact call_len_seq pins s σ H _ us Q I r ⟨a, vs, rfl, .inr ha, by rw [ra.length]; exact fin0 hp q (.int _)⟩
  · cases e
    cases rb with
    | cons b t =>
      cases t
      obtain ⟨a, kvs, rfl, ha, hk⟩ := b.dict hp
      obtain ⟨u, rfl, ru⟩ := vals1 r
      cases ru
      exact d_len I ha fun t s' I' => ⟨.int kvs.length, H, I', ⟨t, rfl⟩, by rw [hk.length]; exact fin0 hp q (.int _)⟩
  · cases e
def gAbs : List D → Option D
  | [.int i] => some (.int (if i < 0 then -i else i))
  | _ => none
theorem cd_abs : CallR X (.builtin "abs") (rCD X T gAbs) := by
  intro pins s σ H xs us Q I r ⟨F, ad, w, ds, d, hp, rb, e, q⟩
  unfold gAbs at e
  split at e
  · cases e
    cases rb with
    | cons b t =>
      cases t
      rw [b.int] at r
      exact call_abs pins s σ H _ us Q I r ⟨_, rfl, fin0 hp q (.int _)⟩
  · cases e
def gInt : List D → Option D
  | [.int i] => some (.int i)
  | [.bool b] => some (.int (if b then 1 else 0))
  | _ => none
theorem cd_int : CallR X (.type "int") (rCD X T gInt) := by
  intro pins s σ H xs us Q I r ⟨F, ad, w, ds, d, hp, rb, e, q⟩
  unfold gInt at e
  split at e
  · cases e
    cases rb with
    | cons b t =>
      cases t
      rw [b.int] at r
      exact call_int1 pins s σ H _ us Q I r (.inl ⟨_, rfl, fin0 hp q (.int _)⟩)
  · cases e
    cases rb with
    | cons b t =>
      cases t
      rw [b.bool] at r
      exact call_int1 pins s σ H _ us Q I r (.inr ⟨_, rfl, fin0 hp q (.int _)⟩)
  · cases e
def gGcd : List D → Option D
  | [.int i, .int j] => some (.int (Nat.gcd i.natAbs j.natAbs : Nat))
  | _ => none
theorem cd_gcd : CallR X (.builtin "math.gcd") (rCD X T gGcd) := by
  intro pins s σ H xs us Q I r ⟨F, ad, w, ds, d, hp, rb, e, q⟩
  unfold gGcd at e
  split at e
  · cases e
    cases rb with
    | cons b t =>
      cases t with
      | cons b2 t =>
        cases t
        rw [b.int, b2.int] at r
        exact cr_gcd pins s σ H _ us Q I r ⟨_, _, rfl, fin0 hp q (.int _)⟩
  · cases e
/-- tuple(x), list(x) of a list or a tuple -/
def gTuple : List D → Option D
  | [.list ds] => some (.tuple ds)
  | [.tuple ds] => some (.tuple ds)
  | _ => none
theorem cd_tuple : CallR X (.type "tuple") (rCD X T gTuple) := by
  intro pins s σ H xs us Q I r ⟨F, ad, w, ds, d, hp, rb, e, q⟩
  unfold gTuple at e
  split at e
  · cases e
    cases rb with
    | cons b t =>
      cases t
      obtain ⟨a, vs, rfl, ha, ra⟩ := b.list hp
      exact call_tupN pins s σ H _ us Q I r ⟨a, vs, rfl, .inl ⟨SqL.of ha, finT hp q ra⟩⟩
  · cases e
    cases rb with
    | cons b t =>
      cases t
      have sx := b.tupR
      obtain ⟨a, vs, rfl, ha, ra⟩ := b.tup hp
      exact call_tupN pins s σ H _ us Q I r ⟨a, vs, rfl, .inr ⟨ha, fin0 hp q sx⟩⟩
  · cases e
def gList : List D → Option (List D)
  | [.list ds] => some ds
  | [.tuple ds] => some ds
  | _ => none
theorem co_list : CallR X (.type "list") (rCO X T gList) := by
  intro pins s σ H xs us Q I r ⟨F, ad, w, ds, d, hp, rb, e, q⟩
  unfold gList at e
  split at e
  · cases e
    cases rb with
    | cons b t =>
      cases t
      obtain ⟨a, vs, rfl, ha, ra⟩ := b.list hp
      exact call_list_of pins s σ H _ us Q I r ⟨a, vs, rfl, .inl (SqL.of ha), fun l hl => q l vs hl ra⟩
  · cases e
    cases rb with
    | cons b t =>
      cases t
      obtain ⟨a, vs, rfl, ha, ra⟩ := b.tup hp
      exact call_list_of pins s σ H _ us Q I r ⟨a, vs, rfl, .inr ha, fun l hl => q l vs hl ra⟩
  · cases e
end
end DL

set_option Elab.async false
set_option linter.all false
set_option maxRecDepth 100000
set_option maxHeartbeats 2000000
namespace DL
open PySem PySem.Spec PySem.SeqAt PySem.W L2

/-- a built-in type's test -/
def isTy (T : String) : D → Option Bool := fun d => if d.plain = true then
    (match T with
     | "int" => some d.isInt
     | "bool" => some d.isBool
     | "str" => some d.isStr
     | "list" => some d.isList
     | "tuple" => some d.isTuple
     | _ => none)
  else none
section
variable {X : Cx} {T : Addr → Prop} {Wx : WX} {a : Expr} {fa : Ef} {pos p q : Pos}
/-- isinstance's reading for one type -/
def rIs (X : Cx) (T : Addr → Prop) (ty : String) : List V → Hp → VK → Prop := fun xs H Q => ∃ F ad w x d b, xs = [x, .ty ty] ∧ HeapOk (gx X T) F ad H w ∧ RepB (gx X T) F ad H x d ∧ isTy ty d = some b ∧ Q (.bl b) H
theorem cr_is (ty : String) : CallR X (.builtin "isinstance") (rIs X T ty) := by
  intro pins s σ H xs us Q I r ⟨F, ad, w, x, d, b, e, hp, rx, eb, hq⟩
  subst e
  obtain ⟨u1, u2, rfl, r1, r2⟩ := vals2 r
  cases (show u2 = Value.type ty from r2)
  unfold isTy at eb
  split at eb
  · rename_i hpl
    obtain ⟨as, rr⟩ := rx.reads I hp hpl r1
    split at eb
    · cases eb; exact isinstance_int_data rr fun tk _ => ⟨.bl _, H, I.tok tk, rfl, hq⟩
    · cases eb; exact isinstance_bool_data rr fun tk _ => ⟨.bl _, H, I.tok tk, rfl, hq⟩
    · cases eb; exact isinstance_str_data rr fun tk _ => ⟨.bl _, H, I.tok tk, rfl, hq⟩
    · cases eb; exact isinstance_list_data rr fun tk _ => ⟨.bl _, H, I.tok tk, rfl, hq⟩
    · cases eb; exact isinstance_tuple_data rr fun tk _ => ⟨.bl _, H, I.tok tk, rfl, hq⟩
    · cases eb
  · cases eb
def eIs (ty : String) (fa : Ef) : Ef := fun ρ w => (fa ρ w).bind fun d w1 => R.of w1 ((isTy ty d).map .bool)
theorem se_is {tn : Str} {ty : String} (hg : Gl X "isinstance") (hm : X.mg "isinstance" = none) (hb : bootBuiltins "isinstance" = some (.builtin "isinstance")) (hgt : Gl X tn) (hmt : X.mg tn = none) (hbt : bootBuiltins tn = some (.type ty)) (ha : SB (gx X T) Wx X a fa)
    (hnt : tn ≠ "__name__" := by decide) (hdt : (tn == ("__debug__" : Str)) = false := by decide)
    (h1 : starEach [a, .Name tn q] X.env = (false, eval a X.env) :: starEach [.Name tn q] X.env := by rfl) (h2 : starEach [.Name tn q] X.env = (false, eval (.Name tn q) X.env) :: starEach [] X.env := by rfl)
    (hpl : (backTo pos (starEach [.Name tn q] X.env)).any (·.1) = false := by rfl) : SE (gx X T) Wx X (.Call (.Name "isinstance" p) [a, .Name tn q] [] pos) (eIs ty fa) :=
  PE.imp (pe_callB (cr_is (T := T) ty) hg hm hb (pa_cons ha (pa_cons (pe_bltn (v := .ty ty) hgt hmt hbt rfl hnt hdt) pa_nil h2) h1) (by decide) (by decide) h1 hpl) fun σ H Q ⟨F, ad, ρ, w, a0, p⟩ =>
    un_in a0 p fun F1 H1 w1 x dx a1 _ rx p1 => by
      show rIs X T ty [x, .ty ty] H1 Q
      cases e : isTy ty dx with
      | none => rw [e] at p1; exact p1.elim
      | some b => rw [e] at p1; exact ⟨F1, ad, w1, x, dx, b, rfl, a1.hp, rx, e, p1 F1 H1 a1.hp Grow.refl _ (.bl b)⟩

/-! ### least and greatest of data -/
def alikeAllB (xs : List D) : Bool := (xs.all fun x => xs.all fun y => alike x y) && xs.all fun x => !isNon x
theorem alikeAllB_out {xs : List D} (h : alikeAllB xs = true) : AlikeAll xs := by
  unfold alikeAllB at h
  rw [Bool.and_eq_true_iff, List.all_eq_true, List.all_eq_true] at h
  refine ⟨fun x hx y hy => List.all_eq_true.mp (h.1 x hx) y hy, fun x hx e => ?_⟩
  have := h.2 x hx
  subst e
  simp [isNon] at this
def mmOk (xs : List D) : Bool := alikeAllB xs && PyData.plainAll xs && decide (PyData.depthAll xs ≤ 64)
def gMin : List D → Option D
  | [.list (x :: xs)] => if mmOk (x :: xs) = true then some (minD x xs) else none
  | [.tuple (x :: xs)] => if mmOk (x :: xs) = true then some (minD x xs) else none
  | [.int i, .int j] => some (.int (if j < i then j else i))
  | _ => none
def gMax : List D → Option D
  | [.list (x :: xs)] => if mmOk (x :: xs) = true then some (maxD x xs) else none
  | [.tuple (x :: xs)] => if mmOk (x :: xs) = true then some (maxD x xs) else none
  | [.int i, .int j] => some (.int (if j > i then j else i))
  | _ => none
theorem mmOk_out {xs : List D} (h : mmOk xs = true) : AlikeAll xs ∧ PyData.plainAll xs = true ∧ PyData.depthAll xs ≤ 64 := by
  unfold mmOk at h
  rw [Bool.and_eq_true_iff, Bool.and_eq_true_iff] at h
  exact ⟨alikeAllB_out h.1.1, h.1.2, of_decide_eq_true h.2⟩
theorem plain_of_mem : ∀ {xs : List D} {x : D}, PyData.plainAll xs = true → x ∈ xs → x.plain = true
  | y :: ys, x, h, hx => by
    have h' := Bool.and_eq_true_iff.mp (show (PyData.plain y && PyData.plainAll ys) = true by simpa [PyData.plainAll] using h)
    rcases List.mem_cons.mp hx with e | hx
    · rw [e]; exact h'.1
    · exact plain_of_mem h'.2 hx
/-- the item at a place that reads as d is d -/
theorem item_is {pins : List (Addr × Obj)} {σ : St} {H : Hp} {s : Shared} {F : Hp} {ad : Option Addr} {w : Wd} {vs : List V} {its : List Value} {ds : List D} {i : Nat} {v : Value} {h' : Heap} {d : D} {bs : List Addr} (I : L2.Inv X pins σ H s) (hp : HeapOk (gx X T) F ad H w)
    (rl : RepL X.K F vs ds) (rv : Vals vs its) (hpl : PyData.plainAll ds = true) (hv : its[i]? = some v) (rd : Reads h' v d bs) (k : ∀ b o, s.heap.get? b = some o → h'.get? b = some o) : ∃ x, RelV x v ∧ Rep X.K F x d := by
  have hi : i < vs.length := by rw [rv.length]; exact (List.getElem?_eq_some_iff.mp hv).1
  obtain ⟨u, h1, h2⟩ := rv.get (List.getElem?_eq_getElem hi)
  rw [hv] at h1
  cases h1
  obtain ⟨e, h3, h4⟩ := rl.at i (List.getElem?_eq_getElem hi)
  have pe := plain_of_mem hpl (List.mem_of_getElem? h3)
  obtain ⟨as, r2⟩ := (Rep.b h4).reads (T := T) I hp pe h2
  have := plain_unique e d v as bs pe (reads_keeps k r2) rd
  subst this
  exact ⟨_, h2, h4⟩
theorem cd_min (hc : X.calm = true) (hu : X.A.units + 100 < cLine) : CallR X (.builtin "min") (rCD X T gMin) := by
  intro pins s σ H xs us Q I r ⟨F, ad, w, ds, d, hp, rb, e, q⟩
  unfold gMin at e
  split at e
  · split at e
    · rename_i hm
      obtain ⟨h1, h2, h3⟩ := mmOk_out hm
      cases e
      cases rb with
      | cons b t =>
        cases t
        obtain ⟨a, vs, rfl, ha, ra⟩ := b.list hp
        obtain ⟨its, rv, pl, _⟩ := I.list (SqL.of (K := X.K) ha)
        obtain ⟨as, hr⟩ := Dp.readsAll I _ _ its (ra.dp hp.sub h2) rv
        rw [Vals.ref1 r]
        refine min_list_data (I.ok.hd hc) pl.isList (by simpa using hr) h1 (by omega) fun i v h' tk bs hv rd k => ?_
        obtain ⟨x, r1, r2⟩ := item_is I hp ra rv h2 (by simpa using hv) rd k
        exact ⟨x, H, I.kept k, r1, fin0 hp q r2⟩
    · cases e
  · split at e
    · rename_i hm
      obtain ⟨h1, h2, h3⟩ := mmOk_out hm
      cases e
      cases rb with
      | cons b t =>
        cases t
        obtain ⟨a, vs, rfl, ha, ra⟩ := b.tup hp
        obtain ⟨its, rv, pl, _⟩ := I.tuple ha
        obtain ⟨as, hr⟩ := Dp.readsAll I _ _ its (ra.dp hp.sub h2) rv
        rw [Vals.ref1 r]
        refine min_tuple_data (I.ok.hd hc) pl (by simpa using hr) h1 (by omega) fun i v h' tk bs hv rd k => ?_
        obtain ⟨x, r1, r2⟩ := item_is I hp ra rv h2 (by simpa using hv) rd k
        exact ⟨x, H, I.kept k, r1, fin0 hp q r2⟩
    · cases e
  · cases e
    cases rb with
    | cons b t =>
      cases t with
      | cons b2 t =>
        cases t
        rw [b.int, b2.int] at r
        exact call_min2 hc pins s σ H _ us Q I r ⟨_, _, rfl, fin0 hp q (.int _)⟩
  · cases e
theorem cd_max (hc : X.calm = true) (hu : X.A.units + 100 < cLine) : CallR X (.builtin "max") (rCD X T gMax) := by
  intro pins s σ H xs us Q I r ⟨F, ad, w, ds, d, hp, rb, e, q⟩
  unfold gMax at e
  split at e
  · split at e
    · rename_i hm
      obtain ⟨h1, h2, h3⟩ := mmOk_out hm
      cases e
      cases rb with
      | cons b t =>
        cases t
        obtain ⟨a, vs, rfl, ha, ra⟩ := b.list hp
        obtain ⟨its, rv, pl, _⟩ := I.list (SqL.of (K := X.K) ha)
        obtain ⟨as, hr⟩ := Dp.readsAll I _ _ its (ra.dp hp.sub h2) rv
        rw [Vals.ref1 r]
        refine max_list_data (I.ok.hd hc) pl.isList (by simpa using hr) h1 (by omega) fun i v h' tk bs hv rd k => ?_
        obtain ⟨x, r1, r2⟩ := item_is I hp ra rv h2 (by simpa using hv) rd k
        exact ⟨x, H, I.kept k, r1, fin0 hp q r2⟩
    · cases e
  · split at e
    · rename_i hm
      obtain ⟨h1, h2, h3⟩ := mmOk_out hm
      cases e
      cases rb with
      | cons b t =>
        cases t
        obtain ⟨a, vs, rfl, ha, ra⟩ := b.tup hp
        obtain ⟨its, rv, pl, _⟩ := I.tuple ha
        obtain ⟨as, hr⟩ := Dp.readsAll I _ _ its (ra.dp hp.sub h2) rv
        rw [Vals.ref1 r]
        refine max_tuple_data (I.ok.hd hc) pl (by simpa using hr) h1 (by omega) fun i v h' tk bs hv rd k => ?_
        obtain ⟨x, r1, r2⟩ := item_is I hp ra rv h2 (by simpa using hv) rd k
        exact ⟨x, H, I.kept k, r1, fin0 hp q r2⟩
    · cases e
  · cases e
    cases rb with
    | cons b t =>
      cases t with
      | cons b2 t =>
        cases t
        rw [b.int, b2.int] at r
        exact call_max2 hc pins s σ H _ us Q I r ⟨_, _, rfl, fin0 hp q (.int _)⟩
  · cases e
/-! ### sorted -/
def sortOk (xs : List D) : Bool := (xs.all fun x => xs.all fun y => alike x y) && PyData.plainAll xs && decide (PyData.depthAll xs ≤ 64) &&
  ((xs.all fun x => match x with | .tuple (_ :: _) => true | _ => false) || xs.all fun x => match x with | .none => false | .tuple _ => false | _ => true)
theorem sortOk_out {xs : List D} (h : sortOk xs = true) : AllAlike (xs.map id) ∧ PyData.plainAll xs = true ∧ PyData.depthAll xs ≤ 64 ∧ Sortable (xs.map id) := by
  unfold sortOk at h
  rw [Bool.and_eq_true_iff, Bool.and_eq_true_iff, Bool.and_eq_true_iff] at h
  obtain ⟨⟨⟨h1, h2⟩, h3⟩, h4⟩ := h
  rw [List.map_id]
  refine ⟨fun x hx y hy => List.all_eq_true.mp (List.all_eq_true.mp h1 x hx) y hy, h2, of_decide_eq_true h3, ?_⟩
  rcases Bool.or_eq_true_iff.mp h4 with h | h
  · refine .inl fun x hx => ?_
    have := List.all_eq_true.mp h x hx
    cases x with
    | tuple ys =>
      cases ys with
      | nil => simp at this
      | cons y r => exact ⟨y, r, rfl⟩
    | _ => simp at this
  · refine .inr fun x hx => ?_
    have := List.all_eq_true.mp h x hx
    refine ⟨fun e => ?_, fun ys e => ?_⟩
    · subst e; simp at this
    · subst e; simp at this
def sortD (b : Bool) (xs : List D) : List D := xs.mergeSort (dataLe b id)
def gSorted : List D → Option (List D)
  | [.list ds] => if sortOk ds = true ∧ ds.length ≤ sizeLine then some (sortD false ds) else none
  | _ => none
theorem each_of {pins : List (Addr × Obj)} {σ : St} {H : Hp} {s : Shared} {F : Hp} {ad : Option Addr} {w : Wd} (I : L2.Inv X pins σ H s) (hp : HeapOk (gx X T) F ad H w) : ∀ {vs : List V} {its : List Value} {ds : List D}, RepL X.K F vs ds → Vals vs its → PyData.plainAll ds = true →
    EachIs (fun v d => ∃ x, RelV x v ∧ Rep X.K F x d) its ds ∧ EachIs (fun v d => ∃ as, Reads s.heap v (id d) as) its ds
  | _, _, _, .nil, .nil, _ => ⟨.nil, .nil⟩
  | _, _, _, .cons r t, .cons rv tv, h => by
    have h' := Bool.and_eq_true_iff.mp (show (PyData.plain _ && PyData.plainAll _) = true by simpa [PyData.plainAll] using h)
    obtain ⟨a, b⟩ := each_of I hp t tv h'.2
    exact ⟨.cons ⟨_, rv, r⟩ a, .cons ((Rep.b r).reads (T := T) I hp h'.1 rv) b⟩
theorem each_back {K : PySem.W.Frag} {F : Hp} : ∀ {out : List Value} {ds : List D}, EachIs (fun v d => ∃ x, RelV x v ∧ Rep K F x d) out ds → ∃ vs, Vals vs out ∧ RepL K F vs ds
  | _, _, .nil => ⟨[], .nil, .nil⟩
  | _, _, .cons ⟨x, a, b⟩ t => by
    obtain ⟨vs, h1, h2⟩ := each_back t
    exact ⟨x :: vs, .cons a h1, .cons b h2⟩
theorem depth_le_all : ∀ {xs : List D} {x : D}, x ∈ xs → x.depth ≤ PyData.depthAll xs
  | y :: ys, x, h => by
    rcases List.mem_cons.mp h with e | h
    · subst e; exact Nat.le_max_left _ _
    · exact Nat.le_trans (depth_le_all h) (Nat.le_max_right _ _)
theorem co_sorted (hu : X.A.units + 100 < cLine) : CallR X (.builtin "sorted") (rCO X T gSorted) := by
  intro pins s σ H xs us Q I r ⟨F, ad, w, ds, d, hp, rb, e, q⟩
  unfold gSorted at e
  split at e
  · rename_i ds
    split at e
    · rename_i hm
      obtain ⟨h1, h2, h3, h4⟩ := sortOk_out hm.1
      cases e
      cases rb with
      | cons b t =>
        cases t
        obtain ⟨a, vs, rfl, ha, ra⟩ := b.list hp
        obtain ⟨its, rv, pl, _⟩ := I.list (SqL.of (K := X.K) ha)
        obtain ⟨e1, e2⟩ := each_of (T := T) I hp ra rv h2
        rw [Vals.ref1 r]
        refine sorted_data (enc := id) pl.isList e1 e2 h1 h4 hm.2 (fun x hx => by have := depth_le_all hx; show X.A.units + 2 + x.depth < cLine; omega) fun out hlen ho => ?_
        obtain ⟨zs, r1, r2⟩ := each_back ho
        obtain ⟨ep, he'⟩ := PyProof.Rows.sortedAll_at s.heap its out.toArray
        have hlen2 : zs.length ≤ sizeLine := by rw [r1.length, hlen]; exact hm.2
        exact ⟨.ref _, upd H (s.heap.objs.size + 1) (.lst zs), I.laid (t' := s.toks) (fun _ _ => PyProof.Rows.sortedAll_old) (Nat.le_succ _) ⟨hlen2, out, ep, r1, he'⟩, rfl, q _ zs (I.hok.fresh (Nat.le_succ _)) r2⟩
    · cases e
  · cases e
end
end DL

set_option Elab.async false
set_option linter.all false
set_option maxRecDepth 100000
set_option maxHeartbeats 2000000
namespace DL
open PySem PySem.Spec PySem.SeqAt PySem.W L2

/-- how a statement ends -/
inductive RS where
  | nx (ρ : Ev) (w : Wd)
  | rt (d : D) (w : Wd)
  | ro (ds : List D) (w : Wd)
  | bk (ρ : Ev) (w : Wd)
  | ct (ρ : Ev) (w : Wd)
  | exc (c : Str) (w : Wd)
  | bad
abbrev Sf := Ev → Wd → RS
/-- the state within a def that began at F0, H0 -/
structure AtS (G : Gx) (F0 H0 F : Hp) (ad : Option Addr) (σ : St) (H : Hp) (ρ : Ev) (w : Wd) : Prop where
  hp : HeapOk G F ad H w
  en : EnvOk G F ad σ H ρ
  gr : Grow G ad F0 H0 F H
  fr : ∀ (i : Nat) s a, ρ[i]? = some (some s) → s.own = true → σ[i]? = some (some (.ref a)) → H0 a = none
def PostS (G : Gx) (Wx : WX) (F0 H0 : Hp) (ad : Option Addr) (Dn : Ends) : RS → Prop
  | .nx ρ w => ∀ σ F H, AtS G F0 H0 F ad σ H ρ w → Dn.nx σ H
  | .bk ρ w => ∀ σ F H, AtS G F0 H0 F ad σ H ρ w → Dn.bk σ H
  | .ct ρ w => ∀ σ F H, AtS G F0 H0 F ad σ H ρ w → Dn.ct σ H
  | .rt d w => ∀ v F H, HeapOk G F ad H w → Grow G ad F0 H0 F H → Rep G.K F v d → Dn.rt v H
  | .ro ds w => ∀ a vs F H, HeapOk G F ad H w → Grow G ad F0 H0 F H → H0 a = none → H a = some (.lst vs) → F a = none → RepL G.K F vs ds → Dn.rt (.ref a) H
  | .exc c w => ∃ C, G.mg c = some (.ref C) ∧ ∀ σ F H, HeapOk G F ad H w → Grow G ad F0 H0 F H → Wx (.ref C) none σ H
  | .bad => False
def tS (G : Gx) (Wx : WX) (f : Sf) : TS := fun Dn σ H => ∃ F0 H0 F ad ρ w, AtS G F0 H0 F ad σ H ρ w ∧ PostS G Wx F0 H0 ad Dn (f ρ w)
abbrev SS (G : Gx) (Wx : WX) (X : Cx) (st : Stmt) (f : Sf) : Prop := PS X st (tS G Wx f)
abbrev SSs (G : Gx) (Wx : WX) (X : Cx) (sts : List Stmt) (f : Sf) : Prop := PSs X sts (tS G Wx f)

section
variable {G : Gx} {Wx : WX} {F0 H0 F F' H H' : Hp} {ad : Option Addr} {σ : St} {ρ : Ev} {w w' : Wd} {Dn : Ends} {α β : Type}
theorem AtS.at (a : AtS G F0 H0 F ad σ H ρ w) : At G F ad σ H ρ w := ⟨a.hp, a.en⟩
theorem AtS.grow (a : AtS G F0 H0 F ad σ H ρ w) (h : HeapOk G F' ad H' w') (g : Grow G ad F H F' H') : AtS G F0 H0 F' ad σ H' ρ w' :=
  ⟨h, a.en.grow a.hp g, a.gr.then a.hp g, a.fr⟩
/-- an expression within a statement -/
def bindS (r : R α) (k : α → Wd → RS) : RS :=
  match r with
  | .ok a w => k a w
  | .exc c w => .exc c w
  | .bad => .bad
theorem expr_post {r : R α} {k : α → Wd → RS} (a0 : AtS G F0 H0 F ad σ H ρ w) (h : PostS G Wx F0 H0 ad Dn (bindS r k)) :
    Post G Wx σ F ad H (fun a w1 F1 H1 => AtS G F0 H0 F1 ad σ H1 ρ w1 ∧ PostS G Wx F0 H0 ad Dn (k a w1)) r := by
  cases r with
  | bad => exact h
  | exc c w1 =>
    obtain ⟨C, e, z⟩ := h
    exact ⟨C, e, fun F1 H1 h1 g1 => z σ F1 H1 h1 (a0.gr.then a0.hp g1)⟩
  | ok a w1 => exact fun F1 H1 h1 g1 => ⟨a0.grow h1 g1, h⟩
theorem exprD_in {fa : Ef} {k : D → Wd → RS} {Z : V → Hp → Prop} (a0 : AtS G F0 H0 F ad σ H ρ w) (h : PostS G Wx F0 H0 ad Dn (bindS (fa ρ w) k))
    (hv : ∀ F1 H1 w1 x dx, AtS G F0 H0 F1 ad σ H1 ρ w1 → Rep G.K F1 x dx → PostS G Wx F0 H0 ad Dn (k dx w1) → Z x H1) : tD G Wx fa σ H Z :=
  ⟨F, ad, ρ, w, a0.at, (expr_post a0 h).imp fun d w1 F1 H1 h1 g1 p v r => hv F1 H1 w1 v d p.1 r p.2⟩
theorem exprB_in {fa : Ef} {k : D → Wd → RS} {Z : V → Hp → Prop} (a0 : AtS G F0 H0 F ad σ H ρ w) (h : PostS G Wx F0 H0 ad Dn (bindS (fa ρ w) k))
    (hv : ∀ F1 H1 w1 x dx, AtS G F0 H0 F1 ad σ H1 ρ w1 → RepB G F1 ad H1 x dx → PostS G Wx F0 H0 ad Dn (k dx w1) → Z x H1) : tB G Wx fa σ H Z :=
  ⟨F, ad, ρ, w, a0.at, (expr_post a0 h).imp fun d w1 F1 H1 h1 g1 p v r => hv F1 H1 w1 v d p.1 r p.2⟩
theorem test_in {ta : Ev → Wd → R Bool} {k : Bool → Wd → RS} {Z : Bool → Hp → Prop} (a0 : AtS G F0 H0 F ad σ H ρ w) (h : PostS G Wx F0 H0 ad Dn (bindS (ta ρ w) k))
    (hv : ∀ F1 H1 w1 b, AtS G F0 H0 F1 ad σ H1 ρ w1 → PostS G Wx F0 H0 ad Dn (k b w1) → Z b H1) : tT G Wx ta σ H Z :=
  ⟨F, ad, ρ, w, a0.at, (expr_post a0 h).imp fun d w1 F1 H1 h1 g1 p => hv F1 H1 w1 d p.1 p.2⟩
end

/-! ### blocks -/
def sNil : Sf := fun ρ w => .nx ρ w
def seqK (r : RS) (g : Sf) : RS :=
  match r with
  | .nx ρ w => g ρ w
  | r => r
def sSeq (f g : Sf) : Sf := fun ρ w => seqK (f ρ w) g
section
variable {X : Cx} {T : Addr → Prop} {Wx : WX} {st : Stmt} {rest a b : List Stmt} {f g : Sf} {e c : Expr} {fa : Ef} {pos : Pos}
theorem ss_nil : SSs (gx X T) Wx X [] sNil := PSs.imp pss_nil fun Dn σ H ⟨F0, H0, F, ad, ρ, w, a0, p⟩ => p σ F H a0
theorem postS_seq {G : Gx} {F0 H0 : Hp} {ad : Option Addr} {Dn : Ends} {r : RS} (p : PostS G Wx F0 H0 ad Dn (seqK r g)) : PostS G Wx F0 H0 ad { Dn with nx := tS G Wx g Dn } r := by
  cases r with
  | nx ρ1 w1 => exact fun σ1 F1 H1 a1 => ⟨F0, H0, F1, ad, ρ1, w1, a1, p⟩
  | rt d w1 => exact p
  | ro ds w1 => exact p
  | bk ρ1 w1 => exact p
  | ct ρ1 w1 => exact p
  | exc c w1 => exact p
  | bad => exact p
theorem ss_cons (h1 : SS (gx X T) Wx X st f) (h2 : SSs (gx X T) Wx X rest g) : SSs (gx X T) Wx X (st :: rest) (sSeq f g) :=
  PSs.imp (pss_cons h1 h2) fun Dn σ H ⟨F0, H0, F, ad, ρ, w, a0, p⟩ => ⟨F0, H0, F, ad, ρ, w, a0, postS_seq p⟩
theorem ss_one (h1 : SS (gx X T) Wx X st f) : SSs (gx X T) Wx X [st] f := pss_one h1
/-- a step that the text does not show -/
theorem ss_ghost {u : Sf} (hu : ∀ F0 H0 F ad σ H ρ w Dn, AtS (gx X T) F0 H0 F ad σ H ρ w → PostS (gx X T) Wx F0 H0 ad Dn (u ρ w) → ∃ F', ∃ ρ', AtS (gx X T) F0 H0 F' ad σ H ρ' w ∧ PostS (gx X T) Wx F0 H0 ad Dn (.nx ρ' w))
    (h2 : SSs (gx X T) Wx X rest g) : SSs (gx X T) Wx X rest (sSeq u g) :=
  PSs.imp h2 fun Dn σ H ⟨F0, H0, F, ad, ρ, w, a0, p⟩ => by
    obtain ⟨F', ρ', a1, p1⟩ := hu F0 H0 F ad σ H ρ w _ a0 (postS_seq p)
    exact p1 σ F' H a1
def sIf (tc : Ev → Wd → R Bool) (f g : Sf) : Sf := fun ρ w => bindS (tc ρ w) fun b w1 => if b = true then f ρ w1 else g ρ w1
theorem ss_if {tc : Ev → Wd → R Bool} (hc : ST (gx X T) Wx X c tc) (ha : SSs (gx X T) Wx X a f) (hb : SSs (gx X T) Wx X b g) : SS (gx X T) Wx X (.If c a b pos) (sIf tc f g) :=
  PS.imp (ps_if hc ha hb) fun Dn σ H ⟨F0, H0, F, ad, ρ, w, a0, p⟩ => test_in a0 p fun F1 H1 w1 k a1 p1 => by
    cases k with
    | true => rw [if_pos rfl] at p1 ⊢; exact ⟨F0, H0, F1, ad, ρ, w1, a1, p1⟩
    | false => rw [if_neg Bool.false_ne_true] at p1 ⊢; exact ⟨F0, H0, F1, ad, ρ, w1, a1, p1⟩
def sRet (fa : Ef) : Sf := fun ρ w => bindS (fa ρ w) fun d w1 => .rt d w1
theorem ss_ret (ha : SE (gx X T) Wx X e fa) : SS (gx X T) Wx X (.Return (some e) pos) (sRet fa) :=
  PS.imp (ps_ret ha) fun Dn σ H ⟨F0, H0, F, ad, ρ, w, a0, p⟩ => exprD_in a0 p fun F1 H1 w1 x dx a1 r p1 => p1 x F1 H1 a1.hp a1.gr r
/-- a fresh list is given back -/
def sRetO (fo : Ev → Wd → R (List D)) : Sf := fun ρ w => bindS (fo ρ w) fun ds w1 => .ro ds w1
theorem none0 {G : Gx} {F0 H0 F H : Hp} {ad : Option Addr} {w : Wd} {a : Addr} (h : HeapOk G F ad H w) (g : Grow G ad F0 H0 F H) (n : H a = none) : H0 a = none := by
  cases q : H0 a with
  | none => rfl
  | some o =>
    exact absurd n (by
      by_cases ht : G.T a
      · exact h.tN a ht
      · by_cases hd : ad = some a
        · exact h.dN a hd
        · rw [g.keep a o q ht hd]; exact fun z => by cases z)
theorem ss_retO {fo : Ev → Wd → R (List D)} (ha : SO (gx X T) Wx X e fo) : SS (gx X T) Wx X (.Return (some e) pos) (sRetO fo) :=
  PS.imp (ps_ret ha) fun Dn σ H ⟨F0, H0, F, ad, ρ, w, a0, p⟩ => ⟨F, ad, ρ, w, a0.at, (expr_post a0 p).imp fun ds w1 F1 H1 h1 g1 q a vs hn ha hf r => q.2 a vs F1 H1 h1 q.1.gr (none0 a0.hp a0.gr hn) ha hf r⟩
def sRetN : Sf := fun _ w => .rt .none w
theorem ss_retN : SS (gx X T) Wx X (.Return none pos) sRetN := PS.imp ps_retN fun Dn σ H ⟨F0, H0, F, ad, ρ, w, a0, p⟩ => p _ F H a0.hp a0.gr .non
def sBk : Sf := fun ρ w => .bk ρ w
def sCt : Sf := fun ρ w => .ct ρ w
theorem ss_break : SS (gx X T) Wx X (.Break pos) sBk := PS.imp ps_break fun Dn σ H ⟨F0, H0, F, ad, ρ, w, a0, p⟩ => p σ F H a0
theorem ss_continue : SS (gx X T) Wx X (.Continue pos) sCt := PS.imp ps_continue fun Dn σ H ⟨F0, H0, F, ad, ρ, w, a0, p⟩ => p σ F H a0
theorem ss_pass : SS (gx X T) Wx X (.Pass pos) sNil := PS.imp ps_pass fun Dn σ H ⟨F0, H0, F, ad, ρ, w, a0, p⟩ => p σ F H a0
def sDrop (fa : Ef) : Sf := fun ρ w => bindS (fa ρ w) fun _ w1 => .nx ρ w1
theorem ss_expr (ha : SE (gx X T) Wx X e fa) (hs : swapsWith e none pos.line X.env = pure false := by rfl) : SS (gx X T) Wx X (.Expr e pos) (sDrop fa) :=
  PS.imp (ps_expr ha hs) fun Dn σ H ⟨F0, H0, F, ad, ρ, w, a0, p⟩ => exprD_in a0 p fun F1 H1 w1 x dx a1 r p1 => p1 σ F1 H1 a1
end

/-! ### targets -/
abbrev Tg := D → Ev → Option Ev
/-- the own slots behind are own slots ahead, as they were -/
def OwnSub (σ σ' : St) (ρ ρ' : Ev) : Prop := ∀ (i : Nat) s, ρ'[i]? = some (some s) → s.own = true → ρ[i]? = some (some s) ∧ σ'[i]? = σ[i]?
/-- only these slots have changed -/
def OutSame (ix : List Nat) (σ σ' : St) : Prop := σ'.length = σ.length ∧ ∀ j, j ∉ ix → σ'[j]? = σ[j]?
theorem OutSame.trans {ix iy : List Nat} {σ σ1 σ2 : St} (a : OutSame ix σ σ1) (b : OutSame iy σ1 σ2) : OutSame (ix ++ iy) σ σ2 :=
  ⟨b.1.trans a.1, fun j h => (b.2 j fun z => h (List.mem_append_right _ z)).trans (a.2 j fun z => h (List.mem_append_left _ z))⟩
/-- an item: data; a pair that is taken apart at once (m) -/
def RepW (K : PySem.W.Frag) (F : Hp) (v : V) (d : D) : Prop := Rep K F v d ∨ ∃ a xs ds, v = .ref a ∧ d = .tuple ds ∧ SqT K F a xs ∧ RepL K F xs ds
def RpM (m : Bool) (K : PySem.W.Frag) (F : Hp) (v : V) (d : D) : Prop := if m = true then RepW K F v d else Rep K F v d
theorem RpM.t {m : Bool} {K : PySem.W.Frag} {F : Hp} {v : V} {ds : List D} (h : RpM m K F v (.tuple ds)) : ∃ a xs, v = .ref a ∧ SqT K F a xs ∧ RepL K F xs ds := by
  have st : Rep K F v (.tuple ds) → ∃ a xs, v = .ref a ∧ SqT K F a xs ∧ RepL K F xs ds := fun r => by
    cases r with
    | tup e rr => exact ⟨_, _, rfl, e.t, rr⟩
  cases m with
  | false => exact st h
  | true =>
    rcases (show RepW K F v (.tuple ds) from h) with r | ⟨a, xs, es, e1, e2, q, r⟩
    · exact st r
    · cases e2; exact ⟨a, xs, e1, q, r⟩
def tG (m : Bool) (G : Gx) (ix : List Nat) (g : Tg) : TG := fun v σ H Q => ∃ F ad ρ w d ρ', At G F ad σ H ρ w ∧ RpM m G.K F v d ∧ g d ρ = some ρ' ∧ ∀ σ', EnvOk G F ad σ' H ρ' → OwnSub σ σ' ρ ρ' → OutSame ix σ σ' → Q σ' H
abbrev SG (m : Bool) (G : Gx) (X : Cx) (tg : Expr) (ix : List Nat) (g : Tg) : Prop := PG X tg (tG m G ix g)
theorem PG.imp {X : Cx} {e : Expr} {t t' : TG} (h : PG X e t) (i : ∀ v σ H Q, t' v σ H Q → t v σ H Q) : PG X e t' := ⟨fun pins s σ H v u Q I r q => h.run pins s σ H v u Q I r (i v σ H Q q)⟩
def gN (i : Nat) : Tg := fun d ρ => if i < ρ.length then some (ρ.set i (some (.v d))) else none
theorem OwnSub.trans {σ σ1 σ2 : St} {ρ ρ1 ρ2 : Ev} (a : OwnSub σ σ1 ρ ρ1) (b : OwnSub σ1 σ2 ρ1 ρ2) : OwnSub σ σ2 ρ ρ2 := fun i s e o => by
  obtain ⟨h1, h2⟩ := b i s e o
  obtain ⟨h3, h4⟩ := a i s h1 o
  exact ⟨h3, h2.trans h4⟩
/-- a slot gets a value -/
theorem EnvOk.setV {G : Gx} {F H : Hp} {ad : Option Addr} {σ : St} {ρ : Ev} {i : Nat} {v : V} {d : D} (h : EnvOk G F ad σ H ρ) (r : Rep G.K F v d) (hi : i < ρ.length) : EnvOk G F ad (σ.set i (some v)) H (ρ.set i (some (.v d))) ∧ OwnSub σ (σ.set i (some v)) ρ (ρ.set i (some (.v d))) := by
  have hi' : i < σ.length := by rw [← h.len]; exact hi
  have own : OwnSub σ (σ.set i (some v)) ρ (ρ.set i (some (.v d))) := fun j s e o => by
    by_cases q : i = j
    · subst q
      rw [List.getElem?_set_self hi] at e
      cases e
      cases o
    · rw [List.getElem?_set_ne q] at e
      exact ⟨e, List.getElem?_set_ne q⟩
  refine ⟨⟨by rw [List.length_set, List.length_set]; exact h.len, fun j s e => ?_, fun j k s t u ne e1 e2 o1 o2 e3 => ?_⟩, own⟩
  · by_cases q : i = j
    · subst q
      rw [List.getElem?_set_self hi] at e
      cases e
      exact ⟨v, List.getElem?_set_self hi', r⟩
    · rw [List.getElem?_set_ne q] at e ⊢
      exact h.sl j s e
  · obtain ⟨a1, a2⟩ := own j s e1 o1
    obtain ⟨b1, b2⟩ := own k t e2 o2
    rw [a2] at e3
    rw [b2]
    exact h.dist j k s t u ne a1 b1 o1 o2 e3
section
variable {X : Cx} {T : Addr → Prop} {Wx : WX} {tg e : Expr} {es : List Expr} {g : Tg} {fa : Ef} {pos pos' : Pos} {x : Str}
theorem sg_name {i : Nat} (h : PG X (.Name x pos) (gName i)) : SG false (gx X T) X (.Name x pos) [i] (gN i) := PG.imp h fun v σ H Q ⟨F, ad, ρ, w, d, ρ', a0, r, eg, q⟩ => by
  unfold gN at eg
  split at eg
  · rename_i hi
    cases eg
    obtain ⟨h1, h2⟩ := a0.en.setV (show Rep _ _ _ _ from r) hi
    exact q _ h1 h2 ⟨List.length_set, fun j hj => List.getElem?_set_ne fun z => hj (by simp [z])⟩
  · cases eg
/-- several targets -/
abbrev Tgs := List D → Ev → Option Ev
def gsN : Tgs := fun ds ρ => match ds with
  | [] => some ρ
  | _ => none
def gsC (g : Tg) (gs : Tgs) : Tgs := fun ds ρ => match ds with
  | d :: ds => (g d ρ).bind fun ρ1 => gs ds ρ1
  | [] => none
def tGs (G : Gx) (ix : List Nat) (g : Tgs) : TGs := fun vs σ H Q => ∃ F ad ρ w ds ρ', At G F ad σ H ρ w ∧ RepL G.K F vs ds ∧ g ds ρ = some ρ' ∧ ∀ σ', EnvOk G F ad σ' H ρ' → OwnSub σ σ' ρ ρ' → OutSame ix σ σ' → Q σ' H
abbrev SGs (G : Gx) (X : Cx) (ts : List Expr) (ix : List Nat) (g : Tgs) : Prop := PGs X ts (tGs G ix g)
theorem PGs.imp {X : Cx} {e : List Expr} {t t' : TGs} (h : PGs X e t) (i : ∀ v σ H Q, t' v σ H Q → t v σ H Q) : PGs X e t' := ⟨fun pins s σ H v u Q I r q => h.run pins s σ H v u Q I r (i v σ H Q q)⟩
theorem sgs_nil : SGs (gx X T) X [] [] gsN := PGs.imp pgs_nil fun vs σ H Q ⟨F, ad, ρ, w, ds, ρ', a0, r, eg, q⟩ => by
  cases r with
  | nil => cases eg; exact ⟨rfl, q σ a0.en (fun i s e _ => ⟨e, rfl⟩) ⟨rfl, fun _ _ => rfl⟩⟩
  | cons _ _ => cases eg
theorem sgs_cons {gs : Tgs} {ix iy : List Nat} (h1 : SG false (gx X T) X e ix g) (h2 : SGs (gx X T) X es iy gs) (hs : (assignEach (e :: es) X.env).map (·.2) = assign e X.env :: (assignEach es X.env).map (·.2) := by rfl) : SGs (gx X T) X (e :: es) (ix ++ iy) (gsC g gs) :=
  PGs.imp (pgs_cons h1 h2 hs) fun vs σ H Q ⟨F, ad, ρ, w, ds, ρ', a0, r, eg, q⟩ => by
    cases r with
    | nil => cases eg
    | @cons v vs d ds r1 r2 =>
      have eg : (g d ρ).bind (fun ρ1 => gs ds ρ1) = some ρ' := eg
      cases e1 : g d ρ with
      | none => rw [e1] at eg; cases eg
      | some ρ1 =>
        rw [e1] at eg
        exact ⟨v, vs, rfl, F, ad, ρ, w, d, ρ1, a0, r1, e1, fun σ1 en1 o1 s1 => ⟨F, ad, ρ1, w, ds, ρ', ⟨a0.hp, en1⟩, r2, eg, fun σ2 en2 o2 s2 => q σ2 en2 (o1.trans o2) (s1.trans s2)⟩⟩
def gT (n : Nat) (gs : Tgs) : Tg := fun d ρ => match d with
  | .tuple ds => if ds.length = n then gs ds ρ else none
  | _ => none
theorem sg_tup {m : Bool} {k n : Nat} {gs : Tgs} {ix : List Nat} (hc : X.calm = true) (h : SGs (gx X T) X es ix gs) (hn : (assignEach es X.env).length = n := by rfl) (hst : (assignEach es X.env).findIdx? (·.1) = none := by rfl) : SG m (gx X T) X (.Tuple es k pos) ix (gT n gs) :=
  PG.imp (pg_tup hc h hn hst) fun v σ H Q ⟨F, ad, ρ, w, d, ρ', a0, r, eg, q⟩ => by
    unfold gT at eg
    split at eg
    · rename_i ds
      split at eg
      · rename_i hl
        obtain ⟨a, xs, rfl, e, rr⟩ := r.t
        exact ⟨_, _, rfl, sqT_mono a0.hp.sub e, by rw [rr.length]; exact hl, F, ad, ρ, w, ds, ρ', a0, rr, eg, q⟩
      · cases eg
    · cases eg
/-- the state behind a target -/
theorem AtS.env {G : Gx} {F0 H0 F H : Hp} {ad : Option Addr} {σ σ' : St} {ρ ρ' : Ev} {w : Wd} (a : AtS G F0 H0 F ad σ H ρ w) (e : EnvOk G F ad σ' H ρ') (o : OwnSub σ σ' ρ ρ') : AtS G F0 H0 F ad σ' H ρ' w :=
  ⟨a.hp, e, a.gr, fun i s b h1 h2 h3 => by
    obtain ⟨x1, x2⟩ := o i s h1 h2
    rw [x2] at h3
    exact a.fr i s b x1 h2 h3⟩
def ofO (w : Wd) : Option Ev → RS
  | some ρ => .nx ρ w
  | none => .bad
def sAsg (fa : Ef) (g : Tg) : Sf := fun ρ w => bindS (fa ρ w) fun d w1 => ofO w1 (g d ρ)
theorem asg_in {ix : List Nat} {σ : St} {H : Hp} {Dn : Ends} (h : tS (gx X T) Wx (sAsg fa g) Dn σ H) : tAsg (tD (gx X T) Wx fa) (tG false (gx X T) ix g) Dn σ H := by
  obtain ⟨F0, H0, F, ad, ρ, w, a0, p⟩ := h
  refine exprD_in a0 p fun F1 H1 w1 x dx a1 r p1 => ?_
  cases e1 : g dx ρ with
  | none => rw [e1] at p1; exact p1.elim
  | some ρ' => rw [e1] at p1; exact ⟨F1, ad, ρ, w1, dx, ρ', a1.at, r, e1, fun σ' en o _ => p1 σ' F1 H1 (a1.env en o)⟩
theorem ss_asg {ix : List Nat} (he : SE (gx X T) Wx X e fa) (hg : SG false (gx X T) X tg ix g) (hs : swapsWithSole [tg] e pos.line X.env = pure false := by rfl) (hw : swappedStores [tg] e X.env = pure none := by rfl)
    (h1 : (assignEach [tg] X.env).map (·.2) = [assign tg X.env] := by rfl) : SS (gx X T) Wx X (.Assign [tg] e pos) (sAsg fa g) := PS.imp (ps_asg he hg hs hw h1) fun Dn σ H h => asg_in h
theorem ss_set {i : Nat} (he : SE (gx X T) Wx X e fa) (hN : X.N.Nodup) (hi : X.N[i]? = some x) (hx : Loc X.env.scope x) (hs : swapsWith e (some (.Name x pos')) pos.line X.env = pure false := by rfl)
    (hf : X.fn x = true ∨ X.env.scope.names.lookup x = some .local := by first | exact .inl rfl | exact .inr rfl | assumption) : SS (gx X T) Wx X (.Assign [.Name x pos'] e pos) (sAsg fa (gN i)) :=
  PS.imp (ps_set hN hi hx he hs hf) fun Dn σ H ⟨F0, H0, F, ad, ρ, w, a0, p⟩ => exprD_in a0 p fun F1 H1 w1 y dy a1 r p1 => by
    unfold gN at p1
    split at p1
    · rename_i hl
      obtain ⟨h1, h2⟩ := a1.en.setV r hl
      exact p1 _ F1 H1 (a1.env h1 h2)
    · exact p1.elim
end
end DL

set_option Elab.async false
set_option linter.all false
set_option maxRecDepth 100000
set_option maxHeartbeats 2000000
namespace DL
open PySem PySem.Spec PySem.SeqAt PySem.W L2

/-! ### what this frame alone holds -/
section
variable {G : Gx} {Wx : WX} {F0 H0 F F' H H' : Hp} {ad : Option Addr} {σ : St} {ρ : Ev} {w w' : Wd} {Dn : Ends} {α β : Type}
/-- a new own thing at a goes to slot i -/
theorem AtS.setOwn {i : Nat} {a : Addr} {s : Sl} (a0 : AtS G F0 H0 F ad σ H ρ w) (hi : i < ρ.length) (ho : s.own = true) (hs : SlOk G F ad H (.ref a) s) (n0 : H0 a = none) (nw : ∀ (j : Nat) t, ρ[j]? = some (some t) → t.own = true → σ[j]? ≠ some (some (.ref a))) :
    AtS G F0 H0 F ad (σ.set i (some (.ref a))) H (ρ.set i (some s)) w := by
  have hi' : i < σ.length := by rw [← a0.en.len]; exact hi
  refine ⟨a0.hp, ⟨by rw [List.length_set, List.length_set]; exact a0.en.len, fun j t e => ?_, fun j k t u v ne e1 e2 o1 o2 e3 => ?_⟩, a0.gr, fun j t b e1 o1 e2 => ?_⟩
  · by_cases q : i = j
    · subst q
      rw [List.getElem?_set_self hi] at e
      cases e
      exact ⟨_, List.getElem?_set_self hi', hs⟩
    · rw [List.getElem?_set_ne q] at e ⊢
      exact a0.en.sl j t e
  · by_cases q : i = j
    · subst q
      rw [List.getElem?_set_self hi] at e1
      cases e1
      rw [List.getElem?_set_self hi'] at e3
      cases e3
      rw [List.getElem?_set_ne ne] at e2 ⊢
      exact nw k u e2 o2
    · rw [List.getElem?_set_ne q] at e1 e3
      by_cases q2 : i = k
      · subst q2
        rw [List.getElem?_set_self hi]  at e2
        cases e2
        rw [List.getElem?_set_self hi']
        intro z
        cases z
        exact nw j t e1 o1 e3
      · rw [List.getElem?_set_ne q2] at e2 ⊢
        exact a0.en.dist j k t u v ne e1 e2 o1 o2 e3
  · by_cases q : i = j
    · subst q
      rw [List.getElem?_set_self hi'] at e2
      cases e2
      exact n0
    · rw [List.getElem?_set_ne q] at e1 e2
      exact a0.fr j t b e1 o1 e2
/-- the thing at slot i is written -/
theorem AtS.put {i : Nat} {a : Addr} {s s' : Sl} {o' : HO} (a0 : AtS G F0 H0 F ad σ H ρ w) (e : ρ[i]? = some (some s)) (ho : s.own = true) (hσ : σ[i]? = some (some (.ref a))) (nT : ¬ G.T a) (nF : F a = none) (nd : ad ≠ some a)
    (ho' : s'.own = true) (hs : SlOk G F ad (upd H a o') (.ref a) s') : AtS G F0 H0 F ad σ (upd H a o') (ρ.set i (some s')) w := by
  have hi : i < ρ.length := (List.getElem?_eq_some_iff.mp e).1
  have n0 := a0.fr i s a e ho hσ
  refine ⟨⟨fun b o q => ?_, a0.hp.noT, a0.hp.noD, fun b q => ?_, fun b q => ?_⟩, ⟨by rw [List.length_set]; exact a0.en.len, fun j t ej => ?_, fun j k t u v ne e1 e2 o1 o2 e3 => ?_⟩, ⟨a0.gr.mono, fun b o q1 q2 q3 => ?_, a0.gr.nf⟩, fun j t b e1 o1 e2 => ?_⟩
  · rw [upd_ne (ne_of_none q nF)]; exact a0.hp.sub b o q
  · obtain ⟨ps, h1, h2⟩ := a0.hp.tab b q
    exact ⟨ps, by rw [upd_ne (fun z => by subst z; exact nT q)]; exact h1, h2⟩
  · obtain ⟨vs, h1, h2⟩ := a0.hp.dr b q
    exact ⟨vs, by rw [upd_ne (fun z => by subst z; exact nd q)]; exact h1, h2⟩
  · by_cases q : i = j
    · subst q
      rw [List.getElem?_set_self hi] at ej
      cases ej
      exact ⟨_, hσ, hs⟩
    · rw [List.getElem?_set_ne q] at ej
      obtain ⟨v, h1, h2⟩ := a0.en.sl j t ej
      refine ⟨v, h1, ?_⟩
      have hne : t.own = true → v ≠ .ref a := fun ot z => by
        subst z
        exact a0.en.dist i j s t _ q e ej ho ot hσ h1
      cases t with
      | v d => exact h2
      | dr => exact h2
      | sc ns => exact h2
      | ol ds =>
        obtain ⟨b, vs, z, h3, h4, h5, h6⟩ := h2
        exact ⟨b, vs, z, h3, h4, by rw [upd_ne fun y => hne rfl (by rw [z, y])]; exact h5, h6⟩
      | od kvs =>
        obtain ⟨b, o, z, h3, h4, h5, h6⟩ := h2
        exact ⟨b, o, z, h3, h4, by rw [upd_ne fun y => hne rfl (by rw [z, y])]; exact h5, h6⟩
  · have key : ∀ (j : Nat) t, (ρ.set i (some s'))[j]? = some (some t) → t.own = true → ∃ t', ρ[j]? = some (some t') ∧ t'.own = true := fun j t ej ot => by
      by_cases q : i = j
      · subst q; exact ⟨s, e, ho⟩
      · rw [List.getElem?_set_ne q] at ej; exact ⟨t, ej, ot⟩
    obtain ⟨t', x1, x2⟩ := key j t e1 o1
    obtain ⟨u', y1, y2⟩ := key k u e2 o2
    exact a0.en.dist j k t' u' v ne x1 y1 x2 y2 e3
  · rw [upd_ne (ne_of_none q1 n0)]
    exact a0.gr.keep b o q1 q2 q3
  · by_cases q : i = j
    · subst q
      rw [hσ] at e2
      cases e2
      exact n0
    · rw [List.getElem?_set_ne q] at e1
      exact a0.fr j t b e1 o1 e2
end

section
variable {X : Cx} {T : Addr → Prop} {Wx : WX} {e : Expr} {fa : Ef} {pos pos' apos cpos p1 : Pos} {x : Str}
/-- x = a new list, kept by this frame -/
def sOwn (fo : Ev → Wd → R (List D)) (i : Nat) : Sf := fun ρ w => bindS (fo ρ w) fun ds w1 => if i < ρ.length then .nx (ρ.set i (some (.ol ds))) w1 else .bad
theorem own_in {fo : Ev → Wd → R (List D)} {i : Nat} {σ : St} {H : Hp} {Dn : Ends} (h : tS (gx X T) Wx (sOwn fo i) Dn σ H) : tAsg (tO (gx X T) Wx fo) (gName i) Dn σ H := by
  obtain ⟨F0, H0, F, ad, ρ, w, a0, p⟩ := h
  refine ⟨F, ad, ρ, w, a0.at, (expr_post a0 p).imp fun ds w1 F1 H1 h1 g1 p1 a vs hn ha hf r => ?_⟩
  obtain ⟨a1, p1⟩ := p1
  split at p1
  · rename_i hi
    have hd : ad ≠ some a := fun z => a0.hp.dN a z hn
    refine p1 _ F1 H1 (a1.setOwn hi rfl ⟨a, vs, rfl, hf, hd, ha, r⟩ ?_ fun j t e o z => ?_)
    · cases q : H0 a with
      | none => rfl
      | some o =>
        exact absurd hn (by
          by_cases ht : T a
          · exact a0.hp.tN a ht
          · rw [a0.gr.keep a o q ht hd]; exact fun z => by cases z)
    · obtain ⟨v, h3, h4⟩ := a0.en.sl j t e
      rw [z] at h3
      cases h3
      cases t with
      | v d => cases o
      | dr => cases o
      | sc ns => cases o
      | ol ds =>
        obtain ⟨b, vs, z, _, _, h5, _⟩ := h4
        cases z
        rw [hn] at h5; cases h5
      | od kvs =>
        obtain ⟨b, o, z, _, _, h5, _⟩ := h4
        cases z
        rw [hn] at h5; cases h5
  · exact p1.elim
theorem ss_own {fo : Ev → Wd → R (List D)} {i : Nat} (he : SO (gx X T) Wx X e fo) (hN : X.N.Nodup) (hi : X.N[i]? = some x) (hx : Loc X.env.scope x) (hs : swapsWith e (some (.Name x pos')) pos.line X.env = pure false := by rfl)
    (hf : X.fn x = true ∨ X.env.scope.names.lookup x = some .local := by first | exact .inl rfl | exact .inr rfl | assumption) : SS (gx X T) Wx X (.Assign [.Name x pos'] e pos) (sOwn fo i) :=
  PS.imp (ps_set hN hi hx he hs hf) fun Dn σ H h => own_in h
/-- an own list is frozen -/
def sFz (i : Nat) : Sf := fun ρ w => match ρ[i]? with
  | some (some (.ol ds)) => .nx (ρ.set i (some (.v (.list ds)))) w
  | some (some (.od kvs)) => .nx (ρ.set i (some (.v (.dict kvs)))) w
  | _ => .bad
theorem HeapOk.freezeO {G : Gx} {F H : Hp} {ad : Option Addr} {w : Wd} {a : Addr} {u : HO} (h : HeapOk G F ad H w) (e : H a = some u) (nt : ∀ ps, u ≠ .tbl ps) (n : F a = none) (hd : ad ≠ some a) : HeapOk G (upd F a u) ad H w := by
  have mono : ∀ b o', F b = some o' → upd F a u b = some o' := fun b o' q => by rw [upd_ne (ne_of_none q n)]; exact q
  refine ⟨fun b o q => ?_, fun b q => ?_, fun b q => ?_, h.tab, fun b q => ?_⟩
  · by_cases hb : b = a
    · subst hb; rw [upd_same] at q; rw [e]; exact q
    · rw [upd_ne hb] at q; exact h.sub b o q
  · by_cases hb : b = a
    · subst hb; exact notT h e nt
    · rw [upd_ne hb] at q; exact h.noT b q
  · by_cases hb : b = a
    · subst hb; exact hd
    · rw [upd_ne hb] at q; exact h.noD b q
  · obtain ⟨us, h1, h2⟩ := h.dr b q
    exact ⟨us, h1, h2.mono mono⟩
theorem AtS.frz {G : Gx} {F0 H0 F H : Hp} {ad : Option Addr} {σ : St} {ρ : Ev} {w : Wd} {i : Nat} {a : Addr} {s : Sl} {u : HO} {d : D} (a0 : AtS G F0 H0 F ad σ H ρ w) (e : ρ[i]? = some (some s)) (ho : s.own = true) (hσ : σ[i]? = some (some (.ref a)))
    (ha : H a = some u) (nt : ∀ ps, u ≠ .tbl ps) (nF : F a = none) (nd : ad ≠ some a) (hr : Rep G.K (upd F a u) (.ref a) d) : AtS G F0 H0 (upd F a u) ad σ H (ρ.set i (some (.v d))) w := by
  have hi : i < ρ.length := (List.getElem?_eq_some_iff.mp e).1
  have mono : ∀ b o', F b = some o' → upd F a u b = some o' := fun b o' q => by rw [upd_ne (ne_of_none q nF)]; exact q
  have n0 := a0.fr i s a e ho hσ
  have key : ∀ (j : Nat) t, (ρ.set i (some (.v d)))[j]? = some (some t) → t.own = true → i ≠ j ∧ ρ[j]? = some (some t) := fun j t ej ot => by
    by_cases q : i = j
    · subst q
      rw [List.getElem?_set_self hi] at ej
      cases ej; cases ot
    · rw [List.getElem?_set_ne q] at ej; exact ⟨q, ej⟩
  refine ⟨a0.hp.freezeO ha nt nF nd, ⟨by rw [List.length_set]; exact a0.en.len, fun j t ej => ?_, fun j k t v z ne e1 e2 o1 o2 e3 => ?_⟩, ⟨fun b o q => mono b o (a0.gr.mono b o q), a0.gr.keep, fun b q1 q2 => ?_⟩, fun j t b e1 o1 e2 => ?_⟩
  · by_cases q : i = j
    · subst q
      rw [List.getElem?_set_self hi] at ej
      cases ej
      exact ⟨_, hσ, hr⟩
    · rw [List.getElem?_set_ne q] at ej
      obtain ⟨v, h1, h2⟩ := a0.en.sl j t ej
      refine ⟨v, h1, ?_⟩
      have hne : t.own = true → v ≠ .ref a := fun ot z => by
        subst z
        exact a0.en.dist i j s t _ q e ej ho ot hσ h1
      cases t with
      | v d => exact Rep.mono mono h2
      | dr => exact h2
      | sc ns => let ⟨b, z, q⟩ := h2; exact ⟨b, z, sqL_mono mono q⟩
      | ol ds =>
        obtain ⟨b, vs, z, h3, h4, h5, h6⟩ := h2
        exact ⟨b, vs, z, by rw [upd_ne fun y => hne rfl (by rw [z, y])]; exact h3, h4, h5, h6.mono mono⟩
      | od kvs =>
        obtain ⟨b, o, z, h3, h4, h5, h6⟩ := h2
        exact ⟨b, o, z, by rw [upd_ne fun y => hne rfl (by rw [z, y])]; exact h3, h4, h5, h6.mono mono⟩
  · exact a0.en.dist j k t v z ne (key j t e1 o1).2 (key k v e2 o2).2 o1 o2 e3
  · rw [upd_ne fun z => by subst z; exact q1 n0]
    exact a0.gr.nf b q1 q2
  · exact a0.fr j t b (key j t e1 o1).2 o1 e2
/-- a dict is frozen: it is read only from now on, known to the object -/
theorem AtS.frzD {G : Gx} {F0 H0 F H : Hp} {ad : Option Addr} {σ : St} {ρ : Ev} {w : Wd} {i : Nat} {a : Addr} {s : Sl} {u u' : HO} {d : D} (a0 : AtS G F0 H0 F ad σ H ρ w) (e : ρ[i]? = some (some s)) (ho : s.own = true) (hσ : σ[i]? = some (some (.ref a)))
    (ha : H a = some u) (nt : ∀ ps, u ≠ .tbl ps) (nF : F a = none) (nd : ad ≠ some a) (hr : Rep G.K (upd F a u') (.ref a) d) : AtS G F0 H0 (upd F a u') ad σ (upd H a u') (ρ.set i (some (.v d))) w := by
  have hi : i < ρ.length := (List.getElem?_eq_some_iff.mp e).1
  have mono : ∀ b o', F b = some o' → upd F a u' b = some o' := fun b o' q => by rw [upd_ne (ne_of_none q nF)]; exact q
  have n0 := a0.fr i s a e ho hσ
  have nT : ¬ G.T a := notT a0.hp ha nt
  have key : ∀ (j : Nat) t, (ρ.set i (some (.v d)))[j]? = some (some t) → t.own = true → i ≠ j ∧ ρ[j]? = some (some t) := fun j t ej ot => by
    by_cases q : i = j
    · subst q
      rw [List.getElem?_set_self hi] at ej
      cases ej; cases ot
    · rw [List.getElem?_set_ne q] at ej; exact ⟨q, ej⟩
  refine ⟨⟨fun b o q => ?_, fun b q => ?_, fun b q => ?_, fun b q => ?_, fun b q => ?_⟩, ⟨by rw [List.length_set]; exact a0.en.len, fun j t ej => ?_, fun j k t v z ne e1 e2 o1 o2 e3 => ?_⟩, ⟨fun b o q => mono b o (a0.gr.mono b o q), fun b o q1 q2 q3 => ?_, fun b q1 q2 => ?_⟩, fun j t b e1 o1 e2 => ?_⟩
  · by_cases hb : b = a
    · subst hb; rw [upd_same] at q ⊢; exact q
    · rw [upd_ne hb] at q ⊢; exact a0.hp.sub b o q
  · by_cases hb : b = a
    · subst hb; exact nT
    · rw [upd_ne hb] at q; exact a0.hp.noT b q
  · by_cases hb : b = a
    · subst hb; exact nd
    · rw [upd_ne hb] at q; exact a0.hp.noD b q
  · obtain ⟨ps, h1, h2⟩ := a0.hp.tab b q
    exact ⟨ps, by rw [upd_ne fun z => by subst z; exact nT q]; exact h1, h2⟩
  · obtain ⟨us, h1, h2⟩ := a0.hp.dr b q
    exact ⟨us, by rw [upd_ne fun z => by subst z; exact nd q]; exact h1, h2.mono mono⟩
  · by_cases q : i = j
    · subst q
      rw [List.getElem?_set_self hi] at ej
      cases ej
      exact ⟨_, hσ, hr⟩
    · rw [List.getElem?_set_ne q] at ej
      obtain ⟨v, h1, h2⟩ := a0.en.sl j t ej
      refine ⟨v, h1, ?_⟩
      have hne : t.own = true → v ≠ .ref a := fun ot z => by
        subst z
        exact a0.en.dist i j s t _ q e ej ho ot hσ h1
      cases t with
      | v d => exact Rep.mono mono h2
      | dr => exact h2
      | sc ns => let ⟨b, z, q⟩ := h2; exact ⟨b, z, sqL_mono mono q⟩
      | ol ds =>
        obtain ⟨b, vs, z, h3, h4, h5, h6⟩ := h2
        have nb : b ≠ a := fun y => hne rfl (by rw [z, y])
        exact ⟨b, vs, z, by rw [upd_ne nb]; exact h3, h4, by rw [upd_ne nb]; exact h5, h6.mono mono⟩
      | od kvs =>
        obtain ⟨b, o, z, h3, h4, h5, h6⟩ := h2
        have nb : b ≠ a := fun y => hne rfl (by rw [z, y])
        exact ⟨b, o, z, by rw [upd_ne nb]; exact h3, h4, by rw [upd_ne nb]; exact h5, h6.mono mono⟩
  · exact a0.en.dist j k t v z ne (key j t e1 o1).2 (key k v e2 o2).2 o1 o2 e3
  · rw [upd_ne (ne_of_none q1 n0)]
    exact a0.gr.keep b o q1 q2 q3
  · rw [upd_ne fun z => by subst z; exact q1 n0]
    exact a0.gr.nf b q1 q2
  · exact a0.fr j t b (key j t e1 o1).2 o1 e2
theorem DK1.mut {K : PySem.W.Frag} {F : Hp} {o : HO} {kds : List (D × D)} (h : DK1 K F o kds) : Mut (some o) := by
  obtain ⟨kvs, e, _⟩ := h
  subst e; exact True.intro
theorem ss_fz {rest : List Stmt} {g : Sf} (i : Nat) (h2 : SSs (gx X T) Wx X rest g) : SSs (gx X T) Wx X rest (sSeq (sFz i) g) := ⟨fun pins s σ H Dn I ⟨F0, H0, F, ad, ρ, w, a0, p⟩ => by
  have p := postS_seq p
  unfold sFz at p
  split at p
  · rename_i ds e
    obtain ⟨v, h1, a, vs, rfl, h3, h4, h5, h6⟩ := a0.en.sl i _ e
    exact h2.run pins s σ H Dn I (p σ _ H (a0.frz e rfl h1 h5 (fun ps z => by cases z) h3 h4 (.lst upd_same (h6.mono fun b o' q => by rw [upd_ne (ne_of_none q h3)]; exact q))))
  · rename_i kvs e
    obtain ⟨v, h1, a, o, rfl, h3, h4, h5, h6⟩ := a0.en.sl i _ e
    obtain ⟨ob, I1⟩ := I.lock h5 h6.mut
    have m : ∀ b o', F b = some o' → upd F a (.frz ob o) b = some o' := fun b o' q => by rw [upd_ne (ne_of_none q h3)]; exact q
    refine h2.run pins s σ _ Dn I1 (p σ _ _ (a0.frzD e rfl h1 h5 h6.notbl h3 h4 ?_))
    obtain ⟨kk, rfl, pr⟩ := h6
    obtain ⟨es, r, rfl⟩ := pr.zip
    exact .dK upd_same (r.mono m)
  · exact p.elim⟩
/-- what is asked of x.append(e), x.extend(e) -/
def sApp (i : Nat) (fa : Ef) : Sf := fun ρ w => match ρ[i]? with
  | some (some (.ol ds)) => bindS (fa ρ w) fun d w1 => if ds.length < sizeLine then .nx (ρ.set i (some (.ol (ds ++ [d])))) w1 else .bad
  | _ => .bad
theorem ss_append {i : Nat} (hv : PE X (.Name x p1) (tVar i)) (ha : SE (gx X T) Wx X e fa) (hst : starEach [e] X.env = (false, eval e X.env) :: starEach [] X.env := by rfl)
    (hbase : attributeBase (.Name x p1) "append" X.env (eval (.Name x p1) X.env) = eval (.Name x p1) X.env := by rfl)
    (hfew : ((backTo cpos (starEach [e] X.env)).all (fun x => !x.1) && (backToKw cpos (keywordEach [] X.env)).all (fun x => x.1.isSome)
      && decide ([e].length + ([] : List Keyword).length + (if ([] : List Keyword).isEmpty then 0 else 1) < 30)) = true := by rfl)
    (hline : (apos.endLine == cpos.line) = true := by rfl) (hplain : (backTo cpos (starEach [] X.env)).any (·.1) = false := by rfl) (hs : swapsWith (.Call (.Attribute (.Name x p1) "append" apos) [e] [] cpos) none pos.line X.env = pure false := by rfl) :
    SS (gx X T) Wx X (.Expr (.Call (.Attribute (.Name x p1) "append" apos) [e] [] cpos) pos) (sApp i fa) :=
  PS.imp (ps_expr (pe_bm PySem.F.plainAttrs_list PySem.F.slot_list_append PySem.F.type_list_append mt_append hv (pa_cons ha pa_nil hst) hbase hfew hline hst hplain) hs) fun Dn σ H ⟨F0, H0, F, ad, ρ, w, a0, p⟩ => by
    unfold sApp at p
    split at p
    case h_2 => exact p.elim
    rename_i ds e
    obtain ⟨v, h1, a, vs, rfl, h3, h4, h5, h6⟩ := a0.en.sl i _ e
    refine ⟨_, h1, .inl ⟨rfl, vs, SqL.of h5⟩, ?_⟩
    refine exprD_in a0 p fun F1 H1 w1 y dy a1 r p1 => ?_
    obtain ⟨v2, g1, a2, vs2, z2, g3, g4, g5, g6⟩ := a1.en.sl i _ e
    rw [h1] at g1
    cases g1
    cases z2
    split at p1
    · rename_i hl
      refine ⟨a, vs2, y, rfl, rfl, g5, by rw [g6.length]; exact hl, p1 σ F1 _ (a1.put e rfl h1 (notT a1.hp g5 fun ps z => by cases z) g3 g4 rfl ⟨a, vs2 ++ [y], rfl, g3, g4, upd_same, g6.snoc r⟩)⟩
    · exact p1.elim
/-- x.extend(e), e a list -/
def sExt (i : Nat) (fa : Ef) : Sf := fun ρ w => match ρ[i]? with
  | some (some (.ol ds)) => bindS (fa ρ w) fun d w1 => match d with
    | .list es => if ds.length + es.length ≤ sizeLine then .nx (ρ.set i (some (.ol (ds ++ es)))) w1 else .bad
    | _ => .bad
  | _ => .bad
theorem ss_extend {i : Nat} (hv : PE X (.Name x p1) (tVar i)) (ha : SE (gx X T) Wx X e fa) (hst : starEach [e] X.env = (false, eval e X.env) :: starEach [] X.env := by rfl)
    (hbase : attributeBase (.Name x p1) "extend" X.env (eval (.Name x p1) X.env) = eval (.Name x p1) X.env := by rfl)
    (hfew : ((backTo cpos (starEach [e] X.env)).all (fun x => !x.1) && (backToKw cpos (keywordEach [] X.env)).all (fun x => x.1.isSome)
      && decide ([e].length + ([] : List Keyword).length + (if ([] : List Keyword).isEmpty then 0 else 1) < 30)) = true := by rfl)
    (hline : (apos.endLine == cpos.line) = true := by rfl) (hplain : (backTo cpos (starEach [] X.env)).any (·.1) = false := by rfl) (hs : swapsWith (.Call (.Attribute (.Name x p1) "extend" apos) [e] [] cpos) none pos.line X.env = pure false := by rfl) :
    SS (gx X T) Wx X (.Expr (.Call (.Attribute (.Name x p1) "extend" apos) [e] [] cpos) pos) (sExt i fa) :=
  PS.imp (ps_expr (pe_bm PySem.F.plainAttrs_list PySem.F.slot_list_extend PySem.F.type_list_extend mt_extend hv (pa_cons ha pa_nil hst) hbase hfew hline hst hplain) hs) fun Dn σ H ⟨F0, H0, F, ad, ρ, w, a0, p⟩ => by
    unfold sExt at p
    split at p
    case h_2 => exact p.elim
    rename_i ds e
    obtain ⟨v, h1, a, vs, rfl, h3, h4, h5, h6⟩ := a0.en.sl i _ e
    refine ⟨_, h1, .inl ⟨rfl, vs, SqL.of h5⟩, ?_⟩
    refine exprD_in a0 p fun F1 H1 w1 y dy a1 r p1 => ?_
    obtain ⟨v2, g1, a2, vs2, z2, g3, g4, g5, g6⟩ := a1.en.sl i _ e
    rw [h1] at g1
    cases g1
    cases z2
    cases dy with
    | list es =>
      change PostS (gx X T) Wx F0 H0 ad Dn (if ds.length + es.length ≤ sizeLine then .nx (ρ.set i (some (.ol (ds ++ es)))) w1 else .bad) at p1
      split at p1
      · rename_i hl
        cases r with
        | @lst b us _ hb rb =>
          refine ⟨a, b, vs2, us, rfl, rfl, g5, a1.hp.sub _ _ hb, by rw [g6.length, rb.length]; exact hl, p1 σ F1 _ (a1.put e rfl h1 (notT a1.hp g5 fun ps z => by cases z) g3 g4 rfl ⟨a, vs2 ++ us, rfl, g3, g4, upd_same, g6.append rb⟩)⟩
      · exact p1.elim
    | _ => exact p1.elim
/-- x op= e at a name -/
def sAug (i : Nat) (g : D → D → Option D) (fa : Ef) : Sf := fun ρ w => match ρ[i]? with
  | some (some (.v d0)) => bindS (fa ρ w) fun d w1 => match g d0 d with
    | some z => .nx (ρ.set i (some (.v z))) w1
    | none => .bad
  | _ => .bad
theorem ss_aug {i : Nat} {op : Operator} {g : D → D → Option D} (ho : OpD X T (inplaceOp op) g) (hN : X.N.Nodup) (hi : X.N[i]? = some x) (hx : Loc X.env.scope x) (he : SB (gx X T) Wx X e fa)
    (hf : X.fn x = true ∨ X.env.scope.names.lookup x = some .local := by first | exact .inl rfl | exact .inr rfl | assumption) : SS (gx X T) Wx X (.AugAssign (.Name x pos') op e pos) (sAug i g fa) :=
  PS.imp (ps_aug (ti := rD X T g) hN hi hx he (fun pins s σ H x y v u Q I rx ry h => ho.r pins s σ H x y v u Q I rx ry h) hf) fun Dn σ H ⟨F0, H0, F, ad, ρ, w, a0, p⟩ => by
    unfold sAug at p
    split at p
    case h_2 => exact p.elim
    rename_i d0 e
    obtain ⟨v, h1, r0⟩ := a0.en.sl i _ e
    refine ⟨v, h1, exprB_in a0 p fun F1 H1 w1 y dy a1 r p1 => ?_⟩
    obtain ⟨v2, g1, r1⟩ := a1.en.sl i _ e
    rw [h1] at g1
    cases g1
    cases q : g d0 dy with
    | none => simp only [q] at p1; exact p1.elim
    | some z =>
      simp only [q] at p1
      refine ⟨F1, ad, w1, d0, dy, z, a1.hp, .inl r1, r, q, fun u F2 H2 h2 g2 r2 => ?_⟩
      have a2 := a1.grow h2 g2
      obtain ⟨h3, h4⟩ := a2.en.setV r2 (List.getElem?_eq_some_iff.mp e).1
      exact p1 _ F2 H2 (a2.env h3 h4)
theorem iod_int0 {op : Operator} {g : Int → Int → Int} {go : D → D → Option D} (h : OpR X (inplaceOp op) (rI0 fun i j => .int (g i j)))
    (hg : ∀ dx dy d, go dx dy = some d → ∃ i j, dx = .int i ∧ dy = .int j ∧ d = .int (g i j)) : OpD X T (inplaceOp op) go := od_int0 h hg
def dIadd : D → D → Option D := onI (fun _ _ => true) (· + ·)
theorem iod_add : OpD X T (inplaceOp .Add) dIadd := od_int0 iop_add fun dx dy d e => let ⟨i, j, h1, h2, _, h3⟩ := onI_out dx dy d e; ⟨i, j, h1, h2, h3⟩
theorem iod_sub : OpD X T (inplaceOp .Sub) dSub := od_int0 iop_sub fun dx dy d e => let ⟨i, j, h1, h2, _, h3⟩ := onI_out dx dy d e; ⟨i, j, h1, h2, h3⟩

/-! ### while -/
def whl (test : Ev → Wd → R Bool) (body : Sf) : Nat → Sf
  | 0 => fun _ _ => .bad
  | n + 1 => fun ρ w => bindS (test ρ w) fun b w1 => if b = true then (match body ρ w1 with
    | .nx ρ2 w2 => whl test body n ρ2 w2
    | .ct ρ2 w2 => whl test body n ρ2 w2
    | .bk ρ2 w2 => .nx ρ2 w2
    | r => r) else .nx ρ w1
theorem ss_while {c : Expr} {body : List Stmt} {tc : Ev → Wd → R Bool} {fb : Sf} (n : Nat) (hp : PassesOwn (model X.prog X.w) X.A X.env X.xe) (hc : ST (gx X T) Wx X c tc) (hb : SSs (gx X T) Wx X body fb) : SS (gx X T) Wx X (.While c body [] pos) (whl tc fb n) :=
  PS.imp (ps_while hp hc hb) fun Dn σ H ⟨F0, H0, F, ad, ρ, w, a0, p⟩ => by
    refine ⟨fun m σ H => ∃ F ρ w, AtS (gx X T) F0 H0 F ad σ H ρ w ∧ PostS (gx X T) Wx F0 H0 ad Dn (whl tc fb m ρ w), ⟨n, F, ρ, w, a0, p⟩, fun m σ H hW => ?_⟩
    obtain ⟨F, ρ, w, a0, p⟩ := hW
    cases m with
    | zero => exact p.elim
    | succ m =>
      refine test_in a0 p fun F1 H1 w1 k a1 p1 => ?_
      cases k with
      | false => rw [if_neg Bool.false_ne_true] at p1 ⊢; exact p1 σ F1 H1 a1
      | true =>
        rw [if_pos rfl] at p1 ⊢
        refine ⟨fun σ' H' => ∃ F ρ w, AtS (gx X T) F0 H0 F ad σ' H' ρ w ∧ PostS (gx X T) Wx F0 H0 ad Dn (whl tc fb m ρ w), fun σ' H' q => ⟨m, Nat.lt_succ_self m, q⟩, F0, H0, F1, ad, ρ, w1, a1, ?_⟩
        cases q : fb ρ w1 with
        | nx ρ2 w2 => simp only [q] at p1; exact fun σ2 F2 H2 a2 => ⟨F2, ρ2, w2, a2, p1⟩
        | ct ρ2 w2 => simp only [q] at p1; exact fun σ2 F2 H2 a2 => ⟨F2, ρ2, w2, a2, p1⟩
        | bk ρ2 w2 => simp only [q] at p1; exact p1
        | rt d w2 => simp only [q] at p1; exact p1
        | ro ds w2 => simp only [q] at p1; exact p1
        | exc c w2 => simp only [q] at p1; exact p1
        | bad => simp only [q] at p1; exact p1
end
end DL

set_option Elab.async false
set_option linter.all false
set_option maxRecDepth 100000
set_option maxHeartbeats 2000000
namespace DL
open PySem PySem.Spec PySem.SeqAt PySem.W L2

/-! ### what is walked -/
/-- J gives the items ds, whatever is done to the heap between -/
def ItOk (m : Bool) (G : Gx) (ad : Option Addr) (F : Hp) (J : It) (ds : List D) : Prop := ∀ F2 H2 w2, HeapOk G F2 ad H2 w2 → (∀ a o, F a = some o → F2 a = some o) →
  (∀ i, i < ds.length → J.go i H2) ∧ J.stop ds.length H2 ∧ ∀ i x H3, i < ds.length → J.yld i H2 x H3 → ∃ F3 d, ds[i]? = some d ∧ HeapOk G F3 ad H3 w2 ∧ Grow G ad F2 H2 F3 H3 ∧ RpM m G.K F3 x d
def tI (m : Bool) (G : Gx) (Wx : WX) (fi : Ev → Wd → R (List D)) : TI := fun σ H Z => ∃ F ad ρ w, At G F ad σ H ρ w ∧ Post G Wx σ F ad H (fun ds _ F' H' => ∀ J, ItOk m G ad F' J ds → Z J H') (fi ρ w)
abbrev SI (m : Bool) (G : Gx) (Wx : WX) (X : Cx) (tg iter : Expr) (fi : Ev → Wd → R (List D)) : Prop := PI X tg iter (tI m G Wx fi)
theorem PI.imp {X : Cx} {tg e : Expr} {t t' : TI} (h : PI X tg e t) (i : ∀ σ H Q, t' σ H Q → t σ H Q) : PI X tg e t' := ⟨fun pins s σ H Q I q => h.run pins s σ H Q I (i σ H Q q)⟩
theorem RepL.at' {K : PySem.W.Frag} {F : Hp} {vs : List V} {ds : List D} (h : RepL K F vs ds) {i : Nat} (hi : i < ds.length) : ∃ v, vs[i]? = some v ∧ ∃ d, ds[i]? = some d ∧ Rep K F v d := by
  have hv : i < vs.length := by rw [h.length]; exact hi
  obtain ⟨d, h1, h2⟩ := h.at i (List.getElem?_eq_getElem hv)
  exact ⟨_, List.getElem?_eq_getElem hv, d, h1, h2⟩
theorem it_list {G : Gx} {ad : Option Addr} {F : Hp} {a : Addr} {vs : List V} {ds : List D} (e : F a = some (.lst vs)) (r : RepL G.K F vs ds) : ItOk false G ad F (Itl G.K a) ds := fun F2 H2 w2 h2 m => by
  have q : SqL G.K H2 a vs := SqL.of (h2.sub _ _ (m _ _ e))
  have w := walk_list (K := G.K) (a := a) (xs := vs)
  rw [← r.length]
  refine ⟨fun i hi => w.goes i H2 hi q, w.stops H2 q, fun i x H3 hi y => ?_⟩
  obtain ⟨e1, e2⟩ := w.yields i H2 x H3 hi q y
  obtain ⟨d, h3, h4⟩ := r.at i e2
  rw [e1]
  exact ⟨F2, d, h3, h2, Grow.refl, h4.mono m⟩
theorem it_tup {G : Gx} {ad : Option Addr} {F : Hp} {a : Addr} {vs : List V} {ds : List D} (e : SqT G.K F a vs) (r : RepL G.K F vs ds) : ItOk false G ad F (Itt G.K a) ds := fun F2 H2 w2 h2 m => by
  have q : SqT G.K H2 a vs := sqT_mono h2.sub (sqT_mono m e)
  have w := walk_tup (K := G.K) (a := a) (xs := vs)
  rw [← r.length]
  refine ⟨fun i hi => w.goes i H2 hi q, w.stops H2 q, fun i x H3 hi y => ?_⟩
  obtain ⟨e1, e2⟩ := w.yields i H2 x H3 hi q y
  obtain ⟨d, h3, h4⟩ := r.at i e2
  rw [e1]
  exact ⟨F2, d, h3, h2, Grow.refl, h4.mono m⟩
def intsD (lo : Int) (n : Nat) : List D := (List.range n).map fun k => .int (lo + (k : Nat))
theorem it_range {G : Gx} {ad : Option Addr} {F : Hp} {lo : Int} {n : Nat} : ItOk false G ad F (Itr lo n) (intsD lo n) := fun F2 H2 w2 h2 m => by
  have w := walk_range (lo := lo) (n := n)
  have hl : (intsD lo n).length = n := by simp [intsD]
  rw [hl]
  refine ⟨fun i hi => w.goes i H2 hi True.intro, w.stops H2 True.intro, fun i x H3 hi y => ?_⟩
  obtain ⟨e1, e2⟩ := w.yields i H2 x H3 hi True.intro y
  rw [e1, e2]
  exact ⟨F2, .int (lo + (i : Nat)), by simp [intsD, hi], h2, Grow.refl, .int _⟩
section
variable {X : Cx} {T : Addr → Prop} {Wx : WX} {tg l a b c : Expr} {fa fb fc : Ef} {pos p : Pos}
/-- a list or a tuple -/
def iSeq (K : PySem.W.Frag) (tl : TE) : TI := fun σ H R => tl σ H fun x H1 => ∃ a, x = .ref a ∧ (((∃ xs, SqL K H1 a xs) ∧ R (Itl K a) H1) ∨ ((∃ xs, SqT K H1 a xs) ∧ R (Itt K a) H1))
theorem pi_seq {tl : TE} (hl : PE X l tl) : PI X tg l (iSeq X.K tl) := by
  refine ⟨fun pins s σ H R I h => ?_⟩
  refine thn (hl.run pins s σ H _ I h) fun v s1 ⟨x, H1, I1, r1, q1⟩ => ?_
  obtain ⟨a, e, q⟩ := q1
  subst e
  cases r1
  rcases q with ⟨⟨xs, hq⟩, q⟩ | ⟨⟨xs, hq⟩, q⟩
  · obtain ⟨its, rv, p, hz⟩ := I1.list hq
    refine wpAny_pyIter_list p.isList ?_
    refine ⟨s1.heap.objs.size, [s1.heap.objs.size], _, _, H1, rfl, I1.kept (t' := s1.toks) fun b o e => Heap.get?_push_of_some _ e, turn_list a _, ⟨_, Heap.get?_push_size _ rfl, rfl, rfl⟩, fun b hb => ?_, q⟩
    have e : b = s1.heap.objs.size := by simpa using hb
    subst e
    exact I1.fpOk (Nat.le_refl _) (I1.hok.fresh (Nat.le_refl _))
  · obtain ⟨its, rv, p, hz⟩ := I1.tuple hq
    refine wpAny_pyIter_tuple (show s1.heap.IsTuple a its.toArray from p) ?_
    refine ⟨s1.heap.objs.size, [s1.heap.objs.size], _, _, H1, rfl, I1.kept (t' := s1.toks) fun b o e => Heap.get?_push_of_some _ e, turn_tuple a _, ⟨_, Heap.get?_push_size _ rfl, rfl, rfl⟩, fun b hb => ?_, q⟩
    have e : b = s1.heap.objs.size := by simpa using hb
    subst e
    exact I1.fpOk (Nat.le_refl _) (I1.hok.fresh (Nat.le_refl _))
def seqOf : D → Option (List D)
  | .list ds => some ds
  | .tuple ds => some ds
  | _ => none
def iS (fa : Ef) : Ev → Wd → R (List D) := fun ρ w => (fa ρ w).bind fun d w1 => R.of w1 (seqOf d)
theorem si_seq (ha : SE (gx X T) Wx X l fa) : SI false (gx X T) Wx X tg l (iS fa) := PI.imp (pi_seq ha) fun σ H Q ⟨F, ad, ρ, w, a0, p⟩ => unE_in a0 p fun F1 H1 w1 x dx a1 _ rx p1 => by
  cases rx with
  | lst e r => exact ⟨_, rfl, .inl ⟨⟨_, SqL.of (a1.hp.sub _ _ e)⟩, p1 F1 H1 a1.hp Grow.refl _ (it_list e r)⟩⟩
  | tup e r => exact ⟨_, rfl, .inr ⟨⟨_, sqT_mono a1.hp.sub e.t⟩, p1 F1 H1 a1.hp Grow.refl _ (it_tup e.t r)⟩⟩
  | _ => exact p1.elim
def rgOk (i : Int) : Bool := decide (-(2 ^ 62) ≤ i) && decide (i < 2 ^ 62)
def iR1 (fa : Ef) : Ev → Wd → R (List D) := fun ρ w => (fa ρ w).bind fun d w1 => match d with
  | .int j => if rgOk j = true then .ok (intsD 0 j.toNat) w1 else .bad
  | _ => .bad
theorem si_r1 (hg : Gl X "range") (hm : X.mg "range" = none) (ha : SB (gx X T) Wx X a fa) (hs : starEach [a] X.env = [(false, eval a X.env)] := by rfl) : SI false (gx X T) Wx X tg (.Call (.Name "range" p) [a] [] pos) (iR1 fa) :=
  PI.imp (pi_range1 hg hm (pa_cons ha pa_nil hs) hs) fun σ H Q ⟨F, ad, ρ, w, a0, p⟩ => un_in a0 p fun F1 H1 w1 x dx a1 _ rx p1 => by
    cases dx with
    | int j =>
      change Post (gx X T) Wx σ F1 ad H1 _ (if rgOk j = true then .ok (intsD 0 j.toNat) w1 else .bad) at p1
      split at p1
      · rename_i h
        have h' : -(2 ^ 62) ≤ j ∧ j < 2 ^ 62 := by simpa [rgOk] using h
        exact ⟨j, by rw [rx.int], h'.1, h'.2, p1 F1 H1 a1.hp Grow.refl _ it_range⟩
      · exact p1.elim
    | _ => exact p1.elim
def iR2 (fa fb : Ef) : Ev → Wd → R (List D) := fun ρ w => (fa ρ w).bind fun d w1 => (fb ρ w1).bind fun e w2 => match d, e with
  | .int i, .int j => if (rgOk i && rgOk j) = true then .ok (intsD i (j - i).toNat) w2 else .bad
  | _, _ => .bad
theorem si_r2 (hg : Gl X "range") (hm : X.mg "range" = none) (ha : SB (gx X T) Wx X a fa) (hb : SB (gx X T) Wx X b fb) (hs : starEach [a, b] X.env = [(false, eval a X.env), (false, eval b X.env)] := by rfl) (hs2 : starEach [b] X.env = [(false, eval b X.env)] := by rfl) :
    SI false (gx X T) Wx X tg (.Call (.Name "range" p) [a, b] [] pos) (iR2 fa fb) :=
  PI.imp (pi_range2 hg hm (pa_cons ha (pa_cons hb pa_nil hs2) (hs.trans (by rw [hs2]))) hs hs2) fun σ H Q ⟨F, ad, ρ, w, a0, p⟩ => bin_in a0 p fun F1 H1 w1 x y dx dy a1 _ rx ry p1 => by
    cases dx with
    | int i =>
      cases dy with
      | int j =>
        change Post (gx X T) Wx σ F1 ad H1 _ (if (rgOk i && rgOk j) = true then .ok (intsD i (j - i).toNat) w1 else .bad) at p1
        split at p1
        · rename_i h
          have h' : (-(2 ^ 62) ≤ i ∧ i < 2 ^ 62) ∧ -(2 ^ 62) ≤ j ∧ j < 2 ^ 62 := by simpa [rgOk] using h
          exact ⟨i, j, by rw [rx.int, ry.int], ⟨h'.1.1, h'.1.2, h'.2.1, h'.2.2⟩, p1 F1 H1 a1.hp Grow.refl _ it_range⟩
        · exact p1.elim
      | _ => exact p1.elim
    | _ => exact p1.elim

section
variable {G : Gx} {Wx : WX} {F0 H0 F1 H1 F H : Hp} {ad : Option Addr} {σ : St} {ρ : Ev} {w : Wd} {Dn : Ends}
theorem Grow.base (g1 : Grow G ad F0 H0 F1 H1) (g : Grow G ad F1 H0 F H) : Grow G ad F0 H0 F H :=
  ⟨fun a o e => g.mono a o (g1.mono a o e), g.keep, fun a h1 h2 => g.nf a h1 (g1.nf a h1 h2)⟩
theorem Grow.rebase (g1 : Grow G ad F0 H0 F1 H1) (g : Grow G ad F0 H0 F H) (m : ∀ a o, F1 a = some o → F a = some o) : Grow G ad F1 H0 F H :=
  ⟨m, g.keep, fun a h1 h2 => g.nf a h1 (by
    cases q : F0 a with
    | none => rfl
    | some o => rw [g1.mono a o q] at h2; cases h2)⟩
theorem AtS.base (g1 : Grow G ad F0 H0 F1 H1) (a : AtS G F1 H0 F ad σ H ρ w) : AtS G F0 H0 F ad σ H ρ w := ⟨a.hp, a.en, g1.base a.gr, a.fr⟩
theorem AtS.rebase (g1 : Grow G ad F0 H0 F1 H1) (a : AtS G F0 H0 F ad σ H ρ w) (m : ∀ a o, F1 a = some o → F a = some o) : AtS G F1 H0 F ad σ H ρ w := ⟨a.hp, a.en, g1.rebase a.gr m, a.fr⟩
end

/-! ### for -/
def forL (tgt : Tg) (body : Sf) : List D → Sf
  | [] => sNil
  | d :: ds => fun ρ w => match tgt d ρ with
    | none => .bad
    | some ρ1 => match body ρ1 w with
      | .nx ρ2 w2 => forL tgt body ds ρ2 w2
      | .ct ρ2 w2 => forL tgt body ds ρ2 w2
      | .bk ρ2 w2 => .nx ρ2 w2
      | r => r
def sFor (fi : Ev → Wd → R (List D)) (tgt : Tg) (body : Sf) : Sf := fun ρ w => bindS (fi ρ w) fun ds w1 => forL tgt body ds ρ w1
theorem drop_cons {α : Type} {l : List α} {i : Nat} {d : α} (h : l[i]? = some d) : l.drop i = d :: l.drop (i + 1) := by
  obtain ⟨h1, h2⟩ := List.getElem?_eq_some_iff.mp h
  rw [← h2]
  exact List.drop_eq_getElem_cons h1
theorem ss_for {m : Bool} {iter : Expr} {body : List Stmt} {fi : Ev → Wd → R (List D)} {tgt : Tg} {ix : List Nat} {fb : Sf} (hp : PassesOwn (model X.prog X.w) X.A X.env X.xe) (hc : X.calm = true) (hi : SI m (gx X T) Wx X tg iter fi) (hg : SG m (gx X T) X tg ix tgt)
    (hb : SSs (gx X T) Wx X body fb) (hs : ∀ x, foldedSetIterable iter X.env x = pure x := by intro _; rfl) : SS (gx X T) Wx X (.For tg iter body [] pos) (sFor fi tgt fb) :=
  PS.imp (ps_for hp hc hi hg hb hs) fun Dn σ H ⟨F0, H0, F, ad, ρ, w, a0, p⟩ => ⟨F, ad, ρ, w, a0.at, (expr_post a0 p).imp fun ds w1 F1 H1 h1 g1 q J hJ => by
    obtain ⟨a1, p1⟩ := q
    refine ⟨fun i m σ H => ∃ F ρ w, AtS (gx X T) F0 H0 F ad σ H ρ w ∧ (∀ a o, F1 a = some o → F a = some o) ∧ m = ds.length - i ∧ i ≤ ds.length ∧ PostS (gx X T) Wx F0 H0 ad Dn (forL tgt fb (ds.drop i) ρ w),
      ⟨ds.length, F1, ρ, w1, a1, fun _ _ e => e, rfl, Nat.zero_le _, p1⟩, fun i m σ H hW => ?_⟩
    obtain ⟨F, ρ, w, a2, mm, em, hi, p2⟩ := hW
    obtain ⟨k1, k2, k3⟩ := hJ F H w a2.hp mm
    by_cases hlt : i < ds.length
    · refine .inr ⟨k1 i hlt, fun σ' H' => ∃ F ρ w, AtS (gx X T) F0 H0 F ad σ' H' ρ w ∧ (∀ a o, F1 a = some o → F a = some o) ∧ PostS (gx X T) Wx F0 H0 ad Dn (forL tgt fb (ds.drop (i + 1)) ρ w), fun σ' H' z => ?_, fun x H' y => ?_⟩
      · obtain ⟨F, ρ, w, a3, m3, p3⟩ := z
        exact ⟨ds.length - (i + 1), by omega, F, ρ, w, a3, m3, rfl, hlt, p3⟩
      · obtain ⟨F3, d, e1, h3, g3, r3⟩ := k3 i x H' hlt y
        rw [drop_cons e1] at p2
        have a3 := a2.grow h3 g3
        unfold forL at p2
        cases et : tgt d ρ with
        | none => simp only [et] at p2; exact p2.elim
        | some ρ1 =>
          simp only [et] at p2
          refine ⟨F3, ad, ρ, w, d, ρ1, a3.at, r3, et, fun σ' en o _ => ?_⟩
          have m3 : ∀ a o, F1 a = some o → F3 a = some o := fun a o e => g3.mono a o (mm a o e)
          refine ⟨F1, H0, F3, ad, ρ1, w, (a3.env en o).rebase a1.gr m3, ?_⟩
          cases q : fb ρ1 w with
          | nx ρ2 w2 => simp only [q] at p2; exact fun σ4 F4 H4 a4 => ⟨F4, ρ2, w2, a4.base a1.gr, a4.gr.mono, p2⟩
          | ct ρ2 w2 => simp only [q] at p2; exact fun σ4 F4 H4 a4 => ⟨F4, ρ2, w2, a4.base a1.gr, a4.gr.mono, p2⟩
          | bk ρ2 w2 => simp only [q] at p2; exact fun σ4 F4 H4 a4 => p2 σ4 F4 H4 (a4.base a1.gr)
          | rt d w2 => simp only [q] at p2; exact fun v F4 H4 h4 g4 r4 => p2 v F4 H4 h4 (a1.gr.base g4) r4
          | ro ds w2 => simp only [q] at p2; exact fun a vs F4 H4 h4 g4 n4 e4 f4 r4 => p2 a vs F4 H4 h4 (a1.gr.base g4) n4 e4 f4 r4
          | exc c w2 =>
            simp only [q] at p2
            obtain ⟨C, e5, p5⟩ := p2
            exact ⟨C, e5, fun σ4 F4 H4 h4 g4 => p5 σ4 F4 H4 h4 (a1.gr.base g4)⟩
          | bad => simp only [q] at p2; exact p2
    · have e : i = ds.length := by omega
      subst e
      rw [List.drop_length] at p2
      exact .inl ⟨k2, p2 σ F H a2⟩⟩
end
end DL

set_option Elab.async false
set_option linter.all false
set_option maxRecDepth 100000
set_option maxHeartbeats 2000000
namespace DL
open PySem PySem.Spec PySem.SeqAt PySem.W L2

/-! ### list comprehensions -/
/-- nothing may be raised -/
abbrev W0 : WX := fun _ _ _ _ => False
def wipeE (ρ : Ev) : List Nat → Ev
  | [] => ρ
  | v :: vs => (wipeE ρ vs).set v none
theorem wipeE_length (ρ : Ev) : ∀ vs : List Nat, (wipeE ρ vs).length = ρ.length
  | [] => rfl
  | v :: vs => by unfold wipeE; rw [List.length_set, wipeE_length ρ vs]
theorem wipeE_some {ρ : Ev} {i : Nat} {s : Sl} : ∀ {vs : List Nat}, (wipeE ρ vs)[i]? = some (some s) → ρ[i]? = some (some s) ∧ i ∉ vs
  | [], h => ⟨h, by simp⟩
  | v :: vs, h => by
    unfold wipeE at h
    by_cases hi : v = i
    · subst hi
      by_cases hv : v < (wipeE ρ vs).length
      · rw [List.getElem?_set_self hv] at h; cases h
      · rw [List.getElem?_eq_none (by simpa using hv)] at h; cases h
    · rw [List.getElem?_set_ne hi] at h
      obtain ⟨h1, h2⟩ := wipeE_some h
      exact ⟨h1, by simp only [List.mem_cons, not_or]; exact ⟨fun e => hi e.symm, h2⟩⟩
theorem wipe_out {σ : St} {i : Nat} : ∀ {vs : List Nat}, i ∉ vs → (wipe σ vs)[i]? = σ[i]?
  | [], _ => rfl
  | v :: vs, h => by
    simp only [List.mem_cons, not_or] at h
    unfold wipe
    rw [List.getElem?_set_ne (Ne.symm h.1)]
    exact wipe_out h.2
theorem wipe_in {σ : St} {i : Nat} : ∀ {vs : List Nat}, i ∈ vs → i < σ.length → (wipe σ vs)[i]? = some none
  | v :: vs, h, hl => by
    unfold wipe
    by_cases e : v = i
    · subst e
      exact List.getElem?_set_self (by rw [wipe_length]; exact hl)
    · rw [List.getElem?_set_ne e]
      exact wipe_in ((List.mem_cons.mp h).resolve_left (Ne.symm e)) hl
theorem wipe_eq {σ σ' : St} {vs : List Nat} (hl : σ'.length = σ.length) (h : ∀ j, j ∉ vs → σ'[j]? = σ[j]?) : wipe σ' vs = wipe σ vs := by
  apply List.ext_getElem?
  intro i
  by_cases hi : i ∈ vs
  · by_cases hb : i < σ.length
    · rw [wipe_in hi hb, wipe_in hi (by rw [hl]; exact hb)]
    · rw [List.getElem?_eq_none (by rw [wipe_length]; omega), List.getElem?_eq_none (by rw [wipe_length]; omega)]
  · rw [wipe_out hi, wipe_out hi]
    exact h i hi
theorem wipe_wipe {σ : St} {vs : List Nat} : wipe (wipe σ vs) vs = wipe σ vs := wipe_eq (wipe_length σ vs) fun j hj => wipe_out hj
theorem EnvOk.wipe {G : Gx} {F H : Hp} {ad : Option Addr} {σ : St} {ρ : Ev} {vs : List Nat} (h : EnvOk G F ad σ H ρ) : EnvOk G F ad (L2.wipe σ vs) H (wipeE ρ vs) where
  len := by rw [wipeE_length, wipe_length]; exact h.len
  sl := fun i s e => by
    obtain ⟨h1, h2⟩ := wipeE_some e
    obtain ⟨v, h3, h4⟩ := h.sl i s h1
    exact ⟨v, by rw [wipe_out h2]; exact h3, h4⟩
  dist := fun i j s t v ne e1 e2 o1 o2 e3 => by
    obtain ⟨h1, h2⟩ := wipeE_some e1
    obtain ⟨h3, h4⟩ := wipeE_some e2
    rw [wipe_out h2] at e3
    rw [wipe_out h4]
    exact h.dist i j s t v ne h1 h3 o1 o2 e3
/-- the comprehension's turns -/
def lcL (tgt : Tg) (tt : Ev → Wd → R Bool) (fe : Ef) (ρ : Ev) : List D → Wd → R (List D)
  | [], w => .ok [] w
  | d :: ds, w => match tgt d ρ with
    | none => .bad
    | some ρ1 => (tt ρ1 w).bind fun b w1 => if b = true then (fe ρ1 w1).bind fun y w2 => (lcL tgt tt fe ρ ds w2).bind fun ys w3 => .ok (y :: ys) w3 else lcL tgt tt fe ρ ds w1
/-- exceptions within are not known -/
def R.calm {α : Type} : R α → R α
  | .exc _ _ => .bad
  | r => r
def oLc (fi : Ev → Wd → R (List D)) (tgt : Tg) (tt : Ev → Wd → R Bool) (fe : Ef) (vs : List Nat) : Ev → Wd → R (List D) := fun ρ w =>
  (fi ρ w).bind fun ds w1 => if ds.length ≤ sizeLine then (lcL tgt tt fe (wipeE ρ vs) ds w1).calm else .bad
def oYes : Ev → Wd → R Bool := fun _ w => .ok true w
/-- a clause's tests -/
def tTs (G : Gx) (Wx : WX) (f : Ev → Wd → R Bool) : TT := tT G Wx f
theorem pts_yes {X : Cx} {T : Addr → Prop} : PTs X [] (tT (gx X T) W0 oYes) := ⟨fun pins s σ H Q I h => pts_nil.run pins s σ H Q I (by
  obtain ⟨F, ad, ρ, w, a0, p⟩ := h
  exact p F H a0.hp Grow.refl)⟩
theorem R.calm_ok {α : Type} {r : R α} {P : α → Wd → Hp → Hp → Prop} {G : Gx} {Wx Wx' : WX} {σ σ' : St} {F H : Hp} {ad : Option Addr} (h : Post G Wx σ F ad H P r.calm) : Post G Wx' σ' F ad H P r := by
  cases r with
  | ok a w => exact h
  | exc c w => exact h.elim
  | bad => exact h.elim
section
variable {md md1 : Bool} {X : Cx} {T : Addr → Prop} {Wx : WX} {elt tg iter : Expr} {ifs : List Expr} {scope : Scope} {own : List (Str × Nat)} {pos spos : Pos} {fi : Ev → Wd → R (List D)} {tgt : Tg} {ix : List Nat} {tt : Ev → Wd → R Bool} {fe : Ef}
/-- the heart -/
theorem lc_in {vs : List Nat} {σ : St} {H : Hp} {Q : VK} (hix : ∀ i ∈ ix, i ∈ vs) (h : tO (gx X T) Wx (oLc fi tgt tt fe vs) σ H Q) : tLc (tI md (gx X T) Wx fi) (tG md (gx X T) ix tgt) (tT (gx X T) W0 tt) (tD (gx X T) W0 fe) vs σ H Q := by
  obtain ⟨F, ad, ρ, w, a0, p⟩ := h
  refine ⟨F, ad, ρ, w, a0, (p.bind a0.hp).imp fun ds w1 F1 H1 h1 g1 p1 J hJ L hL => ?_⟩
  by_cases hlen : ds.length ≤ sizeLine
  case neg =>
    simp only [hlen, if_false] at p1
    exact p1.elim
  simp only [hlen, if_true] at p1
  have nT1 : ¬ T L := fun z => h1.tN L z hL
  have nD1 : ad ≠ some L := fun z => h1.dN L z hL
  have hH : H L = none := by
    cases q : H L with
    | none => rfl
    | some o =>
      have := g1.keep L o q nT1 nD1
      rw [hL] at this; cases this
  have hF1 : F1 L = none := by
    cases q : F1 L with
    | none => rfl
    | some o => have := h1.sub L o q; rw [hL] at this; cases this
  obtain ⟨h2, g2⟩ := h1.new (o := .lst []) hL
  have a1 := a0.grow h1 g1
  have a2 := a1.grow h2 g2
  refine ⟨fun i m H' => ∃ F2 w2 us acc, HeapOk (gx X T) F2 ad H' w2 ∧ Grow (gx X T) ad F1 H1 F2 H' ∧ H' L = some (.lst us) ∧ F2 L = none ∧ RepL X.K F2 us acc ∧ acc.length ≤ i ∧ m = ds.length - i ∧ i ≤ ds.length ∧
      Post (gx X T) Wx σ F1 ad H1 (fun ds x F' H' => ∀ (a : Addr) (vs : List V), H a = none → H' a = some (.lst vs) → F' a = none → RepL X.K F' vs ds → Q (.ref a) H') ((lcL tgt tt fe (wipeE ρ vs) (ds.drop i) w2).bind fun ys w3 => .ok (acc ++ ys) w3).calm, ?_, fun i m H' hW => ?_⟩
  · refine ⟨ds.length, F1, w1, [], [], h2, g2, upd_same, hF1, .nil, Nat.le_refl _, rfl, Nat.zero_le _, ?_⟩
    have e : ∀ r : R (List D), (r.bind fun ys w3 => R.ok ([] ++ ys) w3) = r := fun r => by cases r <;> rfl
    rw [e]
    exact p1
  · obtain ⟨F2, w2, us, acc, h3, g3, hL3, hF3, r3, hacc, hm, hi, p3⟩ := hW
    obtain ⟨k1, k2, k3⟩ := hJ F2 H' w2 h3 g3.mono
    by_cases hlt : i < ds.length
    · refine .inr ⟨k1 i hlt, fun H4 => ∃ F4 w4 us acc, HeapOk (gx X T) F4 ad H4 w4 ∧ Grow (gx X T) ad F1 H1 F4 H4 ∧ H4 L = some (.lst us) ∧ F4 L = none ∧ RepL X.K F4 us acc ∧ acc.length ≤ i + 1 ∧
        Post (gx X T) Wx σ F1 ad H1 (fun ds x F' H' => ∀ (a : Addr) (vs : List V), H a = none → H' a = some (.lst vs) → F' a = none → RepL X.K F' vs ds → Q (.ref a) H') ((lcL tgt tt fe (wipeE ρ vs) (ds.drop (i + 1)) w4).bind fun ys w3 => .ok (acc ++ ys) w3).calm,
        fun H4 z => ?_, fun x H4 y => ?_⟩
      · obtain ⟨F4, w4, us, acc, z1, z2, z3, z4, z5, z6, z7⟩ := z
        exact ⟨ds.length - (i + 1), by omega, F4, w4, us, acc, z1, z2, z3, z4, z5, z6, rfl, hlt, z7⟩
      · obtain ⟨F4, d, e1, h4, g4, r4⟩ := k3 i x H4 hlt y
        rw [drop_cons e1] at p3
        unfold lcL at p3
        have hL4 : H4 L = some (.lst us) := g4.keep L _ hL3 nT1 nD1
        have hF4 : F4 L = none := g4.nf L (by rw [hL3]; exact fun z => by cases z) hF3
        have g14 := g3.then h3 g4
        have r3 := r3.mono g4.mono
        have a4 : At (gx X T) F4 ad (wipe σ vs) H4 (wipeE ρ vs) w2 := ⟨h4, (a1.en.grow a1.hp g14).wipe⟩
        cases et : tgt d (wipeE ρ vs) with
        | none => simp only [et] at p3; exact p3.elim
        | some ρ1 =>
          simp only [et] at p3
          refine ⟨F4, ad, wipeE ρ vs, w2, d, ρ1, a4, r4, et, fun σ2 en2 _ os => ⟨?_, ?_⟩⟩
          · have e := wipe_eq (σ := wipe σ vs) (vs := vs) os.1 fun j hj => os.2 j fun z => hj (hix j z)
            rw [e]; exact wipe_wipe
          · refine ⟨F4, ad, ρ1, w2, ⟨h4, en2⟩, ?_⟩
            cases eb : tt ρ1 w2 with
            | bad => simp only [eb] at p3; exact p3.elim
            | exc c w => simp only [eb] at p3; exact p3.elim
            | ok b w5 =>
              simp only [eb] at p3
              intro F5 H5 h5 g5
              have hL5 : H5 L = some (.lst us) := g5.keep L _ hL4 nT1 nD1
              have hF5 : F5 L = none := g5.nf L (by rw [hL4]; exact fun z => by cases z) hF4
              have g15 := g14.then h4 g5
              have r5 := r3.mono g5.mono
              cases b with
              | false =>
                show (if _ then _ else _)
                rw [if_neg Bool.false_ne_true]
                exact ⟨F5, w5, us, acc, h5, g15, hL5, hF5, r5, Nat.le_succ_of_le hacc, p3⟩
              | true =>
                show (if _ then _ else _)
                rw [if_pos rfl]
                have p3 : Post (gx X T) Wx σ F1 ad H1 (fun ds x F' H' => ∀ (a : Addr) (vs : List V), H a = none → H' a = some (.lst vs) → F' a = none → RepL X.K F' vs ds → Q (.ref a) H')
                  (((fe ρ1 w5).bind fun y w2 => (lcL tgt tt fe (wipeE ρ vs) (ds.drop (i + 1)) w2).bind fun ys w3 => .ok (y :: ys) w3).bind fun ys w3 => .ok (acc ++ ys) w3).calm := p3
                refine ⟨F5, ad, ρ1, w5, ⟨h5, en2.grow h4 g5⟩, ?_⟩
                cases ef : fe ρ1 w5 with
                | bad => simp only [ef] at p3; exact p3.elim
                | exc c w => simp only [ef] at p3; exact p3.elim
                | ok y w6 =>
                  simp only [ef] at p3
                  intro F6 H6 h6 g6 v rv
                  have hL6 : H6 L = some (.lst us) := g6.keep L _ hL5 nT1 nD1
                  have hF6 : F6 L = none := g6.nf L (by rw [hL5]; exact fun z => by cases z) hF5
                  have g16 := g15.then h5 g6
                  refine ⟨us, hL6, by rw [r5.length]; exact Nat.lt_of_le_of_lt hacc (Nat.lt_of_lt_of_le hlt hlen), F6, w6, us ++ [v], acc ++ [y], ?_, ?_, upd_same, hF6, (r5.mono g6.mono).snoc rv, by simp; omega, ?_⟩
                  · refine ⟨fun b o q => ?_, h6.noT, h6.noD, fun b q => ?_, fun b q => ?_⟩
                    · rw [upd_ne (ne_of_none q hF6)]; exact h6.sub b o q
                    · obtain ⟨ps, e, t⟩ := h6.tab b q
                      exact ⟨ps, by rw [upd_ne fun z => by subst z; exact nT1 q]; exact e, t⟩
                    · obtain ⟨us, e, r⟩ := h6.dr b q
                      exact ⟨us, by rw [upd_ne fun z => by subst z; exact nD1 q]; exact e, r⟩
                  · exact ⟨g16.mono, fun b o q n1 n2 => by rw [upd_ne (ne_of_none q hL)]; exact g16.keep b o q n1 n2, g16.nf⟩
                  · have p3 : Post (gx X T) Wx σ F1 ad H1 (fun ds x F' H' => ∀ (a : Addr) (vs : List V), H a = none → H' a = some (.lst vs) → F' a = none → RepL X.K F' vs ds → Q (.ref a) H')
                      (((lcL tgt tt fe (wipeE ρ vs) (ds.drop (i + 1)) w6).bind fun ys w3 => .ok (y :: ys) w3).bind fun ys w3 => .ok (acc ++ ys) w3).calm := p3
                    have e : ∀ r : R (List D), ((r.bind fun ys w3 => .ok (y :: ys) w3).bind fun ys w3 => R.ok (acc ++ ys) w3) = r.bind fun ys w3 => .ok (acc ++ [y] ++ ys) w3 := fun r => by
                      cases r with
                      | ok a w => show R.ok _ _ = R.ok _ _; simp
                      | exc c w => rfl
                      | bad => rfl
                    rw [e] at p3
                    exact p3
    · have e : i = ds.length := by omega
      subst e
      rw [List.drop_length] at p3
      refine .inl ⟨k2, ?_⟩
      have p3 : Post (gx X T) Wx σ F1 ad H1 (fun ds x F' H' => ∀ (a : Addr) (vs : List V), H a = none → H' a = some (.lst vs) → F' a = none → RepL X.K F' vs ds → Q (.ref a) H') (R.ok (acc ++ []) w2) := p3
      rw [List.append_nil] at p3
      exact p3 F2 H' h3 g3 L us hH hL3 hF3 r3
theorem so_lc (hc : X.calm = true) (hN : X.N.Nodup) (hi : SI md (gx X T) Wx X tg iter fi) (ok : BlkOk X.N X.env.scope scope own) (hix : ∀ i ∈ ix, i ∈ own.map (·.2))
    (hg : ∀ (s : Shared) (H : Hp) (C : Addr) (cl : List (Str × Addr)) (fp : List Addr), SG md (gx X T) (X.blk s H scope (compEnvC scope cl C X.env) fp) tg ix tgt)
    (ht : ∀ (s : Shared) (H : Hp) (C : Addr) (cl : List (Str × Addr)) (fp : List Addr), PTs (X.blk s H scope (compEnvC scope cl C X.env) fp) ifs (tT (gx X T) W0 tt))
    (he : ∀ (s : Shared) (H : Hp) (C : Addr) (cl : List (Str × Addr)) (fp : List Addr), SE (gx X T) W0 (X.blk s H scope (compEnvC scope cl C X.env) fp) elt fe) (hs : ∀ x, foldedSetIterable iter X.env x = pure x := by intro _; rfl) :
    SO (gx X T) Wx X (.ListComp elt [⟨tg, iter, ifs, 0⟩] scope pos) (oLc fi tgt tt fe (own.map (·.2))) :=
  PE.imp (pe_lc hc hN hi ok hg ht he hs) fun σ H Q h => lc_in hix h
/-- y = [..], the list kept by this frame -/
theorem ss_setLc {i : Nat} {y : Str} {py : Pos} (hc : X.calm = true) (hN : X.N.Nodup) (hy : X.N[i]? = some y) (hyl : X.env.scope.names.lookup y = some .local)
    (hsw : swapsWith (.ListComp elt [⟨tg, iter, ifs, 0⟩] scope pos) (some (.Name y py)) spos.line X.env = pure true) (hi : SI md (gx X T) Wx X tg iter fi) (ok : BlkOk X.N X.env.scope scope own) (hix : ∀ i ∈ ix, i ∈ own.map (·.2))
    (hg : ∀ (s : Shared) (H : Hp) (C : Addr) (cl : List (Str × Addr)) (fp : List Addr), SG md (gx X T) (X.blk s H scope (compEnvC scope cl C X.env) fp) tg ix tgt)
    (ht : ∀ (s : Shared) (H : Hp) (C : Addr) (cl : List (Str × Addr)) (fp : List Addr), PTs (X.blk s H scope (compEnvC scope cl C X.env) fp) ifs (tT (gx X T) W0 tt))
    (he : ∀ (s : Shared) (H : Hp) (C : Addr) (cl : List (Str × Addr)) (fp : List Addr), SE (gx X T) W0 (X.blk s H scope (compEnvC scope cl C X.env) fp) elt fe) (hs : ∀ x, foldedSetIterable iter X.env x = pure x := by intro _; rfl) :
    SS (gx X T) Wx X (.Assign [.Name y py] (.ListComp elt [⟨tg, iter, ifs, 0⟩] scope pos) spos) (sOwn (oLc fi tgt tt fe (own.map (·.2))) i) :=
  PS.imp (ps_setLc hc hN hy hyl hsw hi ok hg ht he hs) fun Dn σ H h => by
    have z := own_in h
    exact lc_in hix z
end
end DL

set_option Elab.async false
set_option linter.all false
set_option maxRecDepth 100000
set_option maxHeartbeats 2000000
/-! a generator's number never goes: the generators only become more -/
namespace DL
open PySem L2
theorem gens_runs {M : Model} {Γ : Ctx} {p : Pos} {t : Sem Fin} {fs : List Frame} {s s' : Shared} {e : End} (h : Runs M Γ p t fs s e s') : s.gens.size ≤ s'.gens.size := by
  induction h <;> (try simp only [Shared.setGen, Array.size_push, Array.set!_eq_setIfInBounds, Array.size_setIfInBounds] at *) <;> omega
theorem gens_returns {M : Model} {Γ : Ctx} {p : Pos} {s s' : Shared} {r : Result} (h : Returns M Γ p s r s') : s.gens.size ≤ s'.gens.size := gens_runs h
theorem gens_wakes {M : Model} {Γ : Ctx} {p : Pos} {g : Nat} {r : Resume} {s s' : Shared} {res : GenResult} (h : Wakes M Γ p g r s res s') : s.gens.size ≤ s'.gens.size := by
  unfold Wakes at h
  have sg : ∀ (s : Shared) x, (s.setGen g x).gens.size = s.gens.size := fun s x => by simp [Shared.setGen]
  split at h
  · exact h.elim
  · split at h
    · obtain ⟨e₁, s₁, hr, _, _, rfl⟩ := h; have := gens_runs hr; rw [sg] at this ⊢; exact this
    · rw [h.2]; first | exact Nat.le_refl _ | (rw [sg]; exact Nat.le_refl _)
    · rw [h.2]; first | exact Nat.le_refl _ | (rw [sg]; exact Nat.le_refl _)
  · obtain ⟨e₁, s₁, hr, _, _, rfl⟩ := h; have := gens_runs hr; rw [sg] at this ⊢; exact this
  · rw [h.2]; first | exact Nat.le_refl _ | (rw [sg]; exact Nat.le_refl _)
  · rw [h.2]; first | exact Nat.le_refl _ | (rw [sg]; exact Nat.le_refl _)
theorem gens_wp {α : Type} (M : Model) (Γ : Ctx) (n : Nat) (t : Sem α) : ∀ (Q : α → Pos → Shared → Prop) (E : Value → Pos → Shared → Prop) (p : Pos) (s : Shared), n ≤ s.gens.size → PySem.Sem.wp M Γ t Q E p s →
    PySem.Sem.wp M Γ t (fun a p' s' => n ≤ s'.gens.size ∧ Q a p' s') (fun e p' s' => n ≤ s'.gens.size ∧ E e p' s') p s := by
  induction t with
  | pure a => intro Q E p s hn h; exact ⟨hn, h⟩
  | raise e => intro Q E p s hn h; exact ⟨hn, h⟩
  | unsupported _ => intro Q E p s _ h; exact h
  | finish _ => intro Q E p s _ h; exact h
  | rule _ k ih => intro Q E p s hn h; exact ih () Q E p s hn h
  | «at» p' k ih => intro Q E p s hn h; exact ih () Q E p' s hn h
  | load a _ k ih => intro Q E p s hn h; obtain ⟨o, ho, h⟩ := h; exact ⟨o, ho, ih o Q E p s hn h⟩
  | update a _ f k ih => intro Q E p s hn h; exact ⟨h.1, ih () Q E p _ hn h.2⟩
  | loadIfAlive a k ih => intro Q E p s hn h; exact ih _ Q E p s hn h
  | point _ k ih => intro Q E p s hn h; exact ih () Q E p s hn h
  | register _ _ => intro Q E p s _ h; exact h
  | alloc o k ih => intro Q E p s hn h; exact ih _ Q E p _ hn h
  | fresh k ih => intro Q E p s hn h; exact ih _ Q E p _ hn h
  | ask k ih => intro Q E p s hn h; exact ih _ Q E p s hn h
  | choose src m k ih => intro Q E p s hn h; exact ⟨h.1, ih _ Q E p _ hn h.2⟩
  | os q _ k ih => intro Q E p s hn h; exact ih _ Q E p _ hn h
  | call c hd _ _ k ih => intro Q E p s hn h; obtain ⟨r, s', hr, h⟩ := h; exact ⟨r, s', hr, ih r Q E p s' (Nat.le_trans hn (gens_returns hr)) h⟩
  | handled own k ih => intro Q E p s hn h; exact ih _ Q E p s hn h
  | genState g k ih => intro Q E p s hn h; obtain ⟨st, hs, h⟩ := h; exact ⟨st, hs, ih _ Q E p s hn h⟩
  | newGen c k ih => intro Q E p s hn h; exact ih _ Q E p _ (by show n ≤ (s.gens.push _).size; rw [Array.size_push]; omega) h
  | resume g r _ k ih => intro Q E p s hn h; obtain ⟨res, s', hw, h⟩ := h; exact ⟨res, s', hw, ih res Q E p s' (Nat.le_trans hn (gens_wakes hw)) h⟩
  | yield _ _ _ _ => intro Q E p s _ h; exact h
  | stack k ih => intro Q E p s hn h; exact ih _ Q E p s hn h
  | fork _ _ => intro Q E p s _ h; exact h
  | thread k ih => intro Q E p s hn h; exact ih _ Q E p s hn h
  | await _ _ _ _ _ => intro Q E p s _ h; exact h
theorem with_gens {α : Type} {M : Model} {A : Around} {s : Shared} {t : Sem α} {Q : α → Shared → Prop} {E : Value → Shared → Prop} {n : Nat} (hn : n ≤ s.gens.size)
    (h : wpAny M A t (fun a s' => n ≤ s'.gens.size → Q a s') (fun e s' => n ≤ s'.gens.size → E e s') s) : wpAny M A t Q E s :=
  wpAny_mono (Q := fun a s' => n ≤ s'.gens.size ∧ (n ≤ s'.gens.size → Q a s')) (E := fun e s' => n ≤ s'.gens.size ∧ (n ≤ s'.gens.size → E e s')) (fun Γ p hΓ => gens_wp M Γ n t _ _ p s hn (h Γ p hΓ)) (fun _ _ x => x.2 x.1) (fun _ _ x => x.2 x.1)
end DL

set_option Elab.async false
set_option linter.all false
set_option maxRecDepth 100000
set_option maxHeartbeats 2000000
/-! all, any of a generator expression: its frame in the hand layer -/
namespace DG
open PySem PySem.Spec PyProof.Rows L2 DL
open GxR (TabB TabG inv_tab sh_eta)

/-- the context of the generator expression's frame -/
abbrev gcx (X : Cx) (s : Shared) (H : Hp) (scope : Scope) (cenv : Env) (fp : List Addr) (A : Around) : Cx :=
  { X with s_0 := s, H_0 := H, A := A, env := cenv, outer := X.stack, stack := cenv :: X.stack, ex := fp, fn := fun _ => false, calm := true, pn := [], xe := fun _ _ => False }
abbrev gCode (elt tg iter : Expr) (ifs : List Expr) (scope : Scope) (pos : Pos) (it : Addr) (cenv : Env) : Code := .compLoop (.GeneratorExp elt [⟨tg, iter, ifs, 0⟩] scope pos) 0 (.ref it) .none cenv
abbrev gA (A : Around) (elt tg iter : Expr) (ifs : List Expr) (scope : Scope) (pos : Pos) (it : Addr) (cenv : Env) : Around := A.in1.in1.over (gCode elt tg iter ifs scope pos it cenv) []
theorem bare_set {g : Array GenState} {i : Nat} {x : GenState} (h : AllBare g) (hx : x.bare = true) : AllBare (g.setIfInBounds i x) := fun y hy => by
  rcases Array.mem_or_eq_of_mem_setIfInBounds hy with z | z
  · exact h y z
  · rw [z]; exact hx
section
variable {X : Cx} {pins : List (Addr × Obj)} {σ : L2.St} {H : Hp} {s : Shared}
theorem inv_gens {g' : Array GenState} (I : Inv X pins σ H s) (h : AllBare g') : Inv X pins σ H { s with gens := g' } :=
  ⟨I.ok, I.os, h, I.base, I.loc, I.cell, I.free, I.freeC, I.pin, I.hok, I.len⟩
/-- what a turn is to reach: c, the truth that goes on -/
def Turns (J : It) (g : TG) (tt : TT) (te : TE) (vs : List Nat) (σ : L2.St) (c : Bool) (Q : Bool → Hp → Prop) (W : Nat → Nat → Hp → Prop) : Prop := ∀ i m H, W i m H →
  (J.stop i H ∧ Q c H) ∨ (J.go i H ∧ ∃ Nx : Hp → Prop, (∀ H', Nx H' → ∃ m', m' < m ∧ W (i + 1) m' H') ∧ ∀ x H', J.yld i H x H' → g x (wipe σ vs) H' fun σ2 H2 => wipe σ2 vs = wipe σ vs ∧ tt σ2 H2 fun b H3 =>
    if b = true then te σ2 H3 fun y H4 => ∃ k : Bool, y = .bl k ∧ if k = c then Nx H4 else Q (!c) H4 else Nx H3)
/-- at each yield -/
def proto (Xg : Cx) (a : Addr) (go : Obj) (σ : L2.St) (g : Nat) (c : Bool) (Q : Bool → Hp → Prop) : Protocol := fun _ _ v s kap =>
  g < s.gens.size ∧ ∃ (k : Bool) (H : Hp), v = .bool k ∧ Inv Xg [(a, go)] σ H s ∧ (k = c → ∀ gs : GenState, gs.bare = true → kap (.send .none) ((s.setGen g gs).setGen g .running)) ∧ (k ≠ c → Q (!c) H)
def fin (Xg : Cx) (a : Addr) (go : Obj) (σ : L2.St) (g : Nat) (c : Bool) (Q : Bool → Hp → Prop) : Nat → Shared → Shared → Prop := fun _ _ s => g < s.gens.size ∧ ∃ H, Inv Xg [(a, go)] σ H s ∧ Q c H
variable {elt tg iter : Expr} {ifs : List Expr} {scope : Scope} {pos : Pos} {it a : Addr} {go : Obj} {cenv : Env} {fp : List Addr} {J : It} {tn : Nat → Heap → Prop} {g : TG} {tt : TT} {te : TE} {vs : List Nat} {c : Bool} {Q : Bool → Hp → Prop} {W : Nat → Nat → Hp → Prop} {gn : Nat} {s2 : Shared} {H2 : Hp}
theorem seg_loop (hh : X.A.handled = none) (hco : cenv.scope.isCoroutine = false)
    (T : Turn X.prog X.w X.K tg J fp it tn)
    (hg : PG (gcx X s2 H2 scope cenv fp (gA X.A elt tg iter ifs scope pos it cenv)) tg g) (ht : PTs (gcx X s2 H2 scope cenv fp (gA X.A elt tg iter ifs scope pos it cenv)) ifs tt)
    (he : PE (gcx X s2 H2 scope cenv fp (gA X.A elt tg iter ifs scope pos it cenv)) elt te) (turn : Turns J g tt te vs σ c Q W) :
    ∀ (m n i : Nat) (H : Hp) (s₀ s : Shared), m ≤ n → Inv (gcx X s2 H2 scope cenv fp (gA X.A elt tg iter ifs scope pos it cenv)) [(a, go)] (wipe σ vs) H s → tn i s.heap → (∀ b ∈ fp, H b = none ∧ a ≠ b) → gn < s.gens.size → W i m H →
      Seg (model X.prog X.w) X.A.in1.in1 (fun n s₀ r s₁ => r = .ok .next ∧ fin (gcx X s2 H2 scope cenv fp (gA X.A elt tg iter ifs scope pos it cenv)) a go (wipe σ vs) gn c Q n s₀ s₁)
        (proto (gcx X s2 H2 scope cenv fp (gA X.A elt tg iter ifs scope pos it cenv)) a go (wipe σ vs) gn c Q) (n + 1) s₀ (gCode elt tg iter ifs scope pos it cenv) ((model X.prog X.w).den (gCode elt tg iter ifs scope pos it cenv)) [] s := by
  have stat : ∀ {σ' : L2.St} {H' : Hp} {s' : Shared}, Inv (gcx X s2 H2 scope cenv fp (gA X.A elt tg iter ifs scope pos it cenv)) [(a, go)] σ' H' s' → (∀ b ∈ fp, H' b = none ∧ a ≠ b) → ∀ b ∈ fp, FpOk (gcx X s2 H2 scope cenv fp (gA X.A elt tg iter ifs scope pos it cenv)) [(a, go)] H' b := fun {σ' H' s'} I' hn b hb =>
    ⟨(hn b hb).1, (I'.ok.exf b hb).1, I'.ok.exfs b hb, .inl hb, fun x c e => (I'.ok.exf b hb).2 x c e, fun p hp => by
      have e : p = (a, go) := by simpa using hp
      subst e
      exact (hn b hb).2⟩
  intro m
  induction m using Nat.strongRecOn with
  | _ m ih =>
  intro n i H s₀ s hmn I st hfp hgn w0
  show Seg _ X.A.in1.in1 _ _ _ s₀ _ ((compTurn (.GeneratorExp elt [⟨tg, iter, ifs, 0⟩] scope pos) 0 (.ref it) .none cenv).onRaise (leaving cenv)) [] s
  rw [compTurn_gen, Sem.onRaise_eq_wrap]
  refine seg_bind_wrap (wpAny_standAt ?_)
  rcases turn i m H w0 with ⟨stop, qq⟩ | ⟨goes, Nx, hNx, step⟩
  · refine seg_bind_wrap (with_gens (n := gn + 1) hgn (wpAny_mono (T.done (gcx X s2 H2 scope cenv fp (gA X.A elt tg iter ifs scope pos it cenv)) rfl rfl rfl rfl i [(a, go)] s _ H (fun _ _ => False) I (stat I hfp) st stop) (fun r s3 h hlt => ?_) (fun _ _ z _ => z.elim)))
    obtain ⟨hr, I3⟩ := h
    subst hr
    exact seg_end (.ok .next) ⟨rfl, hlt, H, I3, qq⟩
  · refine seg_bind_wrap (with_gens (n := gn + 1) hgn (wpAny_mono (T.item (gcx X s2 H2 scope cenv fp (gA X.A elt tg iter ifs scope pos it cenv)) rfl rfl rfl rfl i [(a, go)] s _ H (fun _ _ => False) I (stat I hfp) st goes) (fun r s3 h hl3 => ?_) (fun _ _ z _ => z.elim)))
    obtain ⟨u, hr, h3⟩ := h
    subst hr
    refine seg_bind_wrap (with_gens (n := gn + 1) hl3 (wpAny_mono h3 (fun _ s4 h hl4 => ?_) (fun _ _ z _ => z.elim)))
    obtain ⟨x, H4, I4, r4, y4, st4, n4⟩ := h
    have hn4 : ∀ b ∈ fp, H4 b = none ∧ a ≠ b := fun b hb => ⟨n4 b hb, (hfp b hb).2⟩
    have I4' := I4.pinned (stat I4 hn4) (T.obj _ _ st4)
    refine seg_bind_wrap (with_gens (n := gn + 1) hl4 (wpAny_mono (hg.run _ s4 _ H4 x u _ I4' r4 (step x H4 y4)) (fun _ s5 h hl5 => ?_) (fun _ _ z _ => z.elim)))
    obtain ⟨σ5, H5, I5, hw5, q5⟩ := h
    refine seg_bind_wrap (with_gens (n := gn + 1) hl5 (wpAny_mono (ht.run _ s5 σ5 H5 _ I5 q5) (fun b s6 h hl6 => ?_) (fun _ _ z _ => z.elim)))
    obtain ⟨H6, I6, q6⟩ := h
    have fine : ∀ {s' : Shared} {H' : Hp}, Inv (gcx X s2 H2 scope cenv fp (gA X.A elt tg iter ifs scope pos it cenv)) ([(a, go)] ++ pinsAt fp s4.heap) σ5 H' s' →
        Inv (gcx X s2 H2 scope cenv fp (gA X.A elt tg iter ifs scope pos it cenv)) [(a, go)] (wipe σ vs) H' s' ∧ tn (i + 1) s'.heap ∧ ∀ b ∈ fp, H' b = none ∧ a ≠ b := fun {s' H'} I' => by
      have pin' : ∀ b ∈ fp, ∀ o, s4.heap.get? b = some o → s'.heap.get? b = some o ∧ H' b = none := fun b hb o e =>
        let z := I'.pin (b, o) (List.mem_append_right _ (List.mem_append_right _ (mem_pinsAt hb e)))
        ⟨z.1, z.2.1⟩
      have hl : (wipe σ vs).length = σ5.length := by rw [← hw5, wipe_length]
      refine ⟨(I'.unpinned (pins := [(a, go)])).weak hl fun j v e => ?_, T.keep _ _ _ st4 fun b hb o e => (pin' b hb o e).1, fun b hb => ?_⟩
      · rw [← hw5] at e
        exact (wipe_some e).1
      · obtain ⟨o, e, _⟩ := T.obj _ _ st4 b hb
        exact ⟨(pin' b hb o e).2, (hfp b hb).2⟩
    cases b with
    | false =>
      simp only [Bool.false_eq_true, if_false] at q6 ⊢
      obtain ⟨m', hm, w'⟩ := hNx H6 q6
      obtain ⟨z1, z2, z3⟩ := fine I6
      exact seg_again rfl (ih m' hm n (i + 1) H6 s₀ s6 (by omega) z1 z2 z3 hl6 w')
    | true =>
      simp only [if_true] at q6 ⊢
      have hy : ∀ v, yieldOut cenv v = yieldValue v := fun v => by simp only [yieldOut, hco, Bool.false_eq_true, if_false]
      simp only [hy]
      rw [Sem.bind_eq_wrap', Sem.bind_eq_wrap', Sem.wrap_wrap, Sem.wrap_wrap]
      refine seg_wrap (with_gens (n := gn + 1) hl6 (wpAny_mono (he.run _ s6 σ5 H6 _ I6 q6) (fun yv s7 h hl7 => ?_) (fun _ _ z _ => z.elim)))
      obtain ⟨y, H7, I7, r7, k, rfl, q7⟩ := h
      obtain rfl : yv = Value.bool k := r7
      obtain ⟨z1, z2, z3⟩ := fine I7
      refine seg_at (seg_yield rfl rfl rfl ⟨hl7, k, H7, rfl, z1, fun hk gs hb => ?_, fun hk => ?_⟩)
      · rw [if_pos hk] at q7
        obtain ⟨m', hm, w'⟩ := hNx H7 q7
        obtain ⟨n', rfl⟩ : ∃ n', n = n' + 1 := ⟨n - 1, by omega⟩
        refine seg_again rfl (ih m' hm n' (i + 1) H7 _ _ (by omega) ?_ z2 z3 ?_ w')
        · exact inv_gens (inv_gens z1 (bare_set z1.bare hb)) (bare_set (bare_set z1.bare hb) rfl)
        · show gn < ((s7.gens.setIfInBounds gn gs).setIfInBounds gn .running).size
          rw [Array.size_setIfInBounds, Array.size_setIfInBounds]
          exact hl7
      · rw [if_neg hk] at q7
        exact q7
abbrev sCode (elt tg iter : Expr) (ifs : List Expr) (scope : Scope) (pos : Pos) (it : Addr) (cenv : Env) : Code := .compStart (.GeneratorExp elt [⟨tg, iter, ifs, 0⟩] scope pos) 0 (.ref it) .none cenv
theorem seg_start (hh : X.A.handled = none) (hco : cenv.scope.isCoroutine = false)
    (T : Turn X.prog X.w X.K tg J fp it tn)
    (hg : PG (gcx X s2 H2 scope cenv fp (gA X.A elt tg iter ifs scope pos it cenv)) tg g) (ht : PTs (gcx X s2 H2 scope cenv fp (gA X.A elt tg iter ifs scope pos it cenv)) ifs tt)
    (he : PE (gcx X s2 H2 scope cenv fp (gA X.A elt tg iter ifs scope pos it cenv)) elt te) (turn : Turns J g tt te vs σ c Q W)
    {m n : Nat} {H : Hp} {s₀ s : Shared} (hmn : m ≤ n) (I : Inv (gcx X s2 H2 scope cenv fp (gA X.A elt tg iter ifs scope pos it cenv)) [(a, go)] (wipe σ vs) H s) (st : tn 0 s.heap) (hfp : ∀ b ∈ fp, H b = none ∧ a ≠ b) (hgn : gn < s.gens.size) (w0 : W 0 m H) :
      Seg (model X.prog X.w) X.A.in1.in1 (fun n s₀ r s₁ => r = .ok .next ∧ fin (gcx X s2 H2 scope cenv fp (gA X.A elt tg iter ifs scope pos it cenv)) a go (wipe σ vs) gn c Q n s₀ s₁)
        (proto (gcx X s2 H2 scope cenv fp (gA X.A elt tg iter ifs scope pos it cenv)) a go (wipe σ vs) gn c Q) (n + 1) s₀ (sCode elt tg iter ifs scope pos it cenv) ((model X.prog X.w).den (sCode elt tg iter ifs scope pos it cenv)) [] s := by
  have loop := seg_loop (scope := scope) hh hco T hg ht he turn m n 0 H s₀ s hmn I st hfp hgn w0
  show Seg _ X.A.in1.in1 _ _ _ s₀ _ ((compStart (.GeneratorExp elt [⟨tg, iter, ifs, 0⟩] scope pos) 0 (.ref it) .none cenv).onRaise (leaving cenv)) [] s
  unfold compStart
  rw [Sem.onRaise_eq_wrap]
  show Seg _ X.A.in1.in1 _ _ _ s₀ _ ((ask >>= _).wrap _ _ _ _) [] s
  refine seg_bind_wrap (wpAny_askSetting ?_)
  split
  · exact seg_again rfl loop
  · first
      | exact seg_bind_wrap (wpAny_rule (seg_bind_wrap (wpAny_standAt (seg_bind_wrap (T.self _ 0 s _ _ st (seg_again rfl loop))))))
      | (refine seg_bind_wrap (wpAny_rule ?_); show Seg _ X.A.in1.in1 _ _ _ s₀ _ ((standAt iter.pos >>= _).wrap _ _ _ _) [] s; exact seg_bind_wrap (wpAny_standAt (seg_bind_wrap (T.self _ 0 s _ _ st (seg_again rfl loop)))))
end
end DG

set_option Elab.async false
set_option linter.all false
set_option maxRecDepth 100000
set_option maxHeartbeats 2000000
namespace DG
open PySem PySem.Spec PyProof.Rows L2 DL
open GxR (TabB TabG Tabbed inv_tab sh_eta)

/-- the number of a generator object -/
def GenObj (go : Obj) (g : Nat) : Prop := ∃ nm qn, go.cls = .type "generator" ∧ go.data = .fields #[.int g 0, nm, qn] ∧ go.slots = #[]
theorem GenObj.is {go : Obj} {g : Nat} (h : GenObj go g) {hp : Heap} {a : Addr} (e : hp.get? a = some go) : hp.IsGen a g := let ⟨nm, qn, h1, h2, h3⟩ := h; ⟨go, nm, qn, e, h1, h2, h3⟩
section
variable {X : Cx} {σ : L2.St} {elt tg iter : Expr} {ifs : List Expr} {scope : Scope} {pos : Pos} {it a : Addr} {go : Obj} {cenv : Env} {fp : List Addr} {vs : List Nat} {Q : Bool → Hp → Prop} {gn : Nat} {s2 : Shared} {H2 : Hp} {RR : Result → Shared → Prop}
/-- the generator sleeps in s -/
def Sleeps (X Xg : Cx) (a : Addr) (go : Obj) (σ : L2.St) (gn : Nat) (c : Bool) (Q : Bool → Hp → Prop) (n : Nat) (s : Shared) : Prop :=
  ∃ gs H, s.gens[gn]? = some gs ∧ Inv Xg [(a, go)] σ H s ∧ gs.Goes (model X.prog X.w) X.A.in1.in1 (fun n s₀ r s₁ => r = .ok .next ∧ fin Xg a go σ gn c Q n s₀ s₁) (proto Xg a go σ gn c Q) n (.send .none) (s.setGen gn .running)
theorem set_same {s : Shared} {x : GenState} (h : gn < s.gens.size) : (s.setGen gn x).gens[gn]? = some x := by
  simp [Shared.setGen, h]
theorem next_of {Xg : Cx} {c : Bool} {n : Nat} {s : Shared} {QQ : Option Value → Shared → Prop} {E : Value → Shared → Prop} (hh : X.A.handled = none) (hroom : X.A.depth < recursionLimit) (hgo : GenObj go gn) (h : Sleeps X Xg a go σ gn c Q n s)
    (hy : ∀ (k : Bool) (H : Hp) (s' : Shared), Inv Xg [(a, go)] σ H s' → (k = c → ∃ m, n = m + 1 ∧ Sleeps X Xg a go σ gn c Q m s') → (k ≠ c → Q (!c) H) → QQ (some (.bool k)) s')
    (hn : ∀ (H : Hp) (s' : Shared), Inv Xg [(a, go)] σ H s' → Q c H → QQ none s') :
    wpAny (model X.prog X.w) X.A.in1 (pyNext (.ref a)) QQ E s := by
  obtain ⟨gs, H, hgs, I, hg⟩ := h
  have ha := (I.pin (a, go) (List.mem_append_right _ List.mem_cons_self)).1
  refine wpAny_pyNext_genexpQ (A := X.A.in1) hh I.nolimit hroom (hgo.is ha) hgs hg (fun v s₁ gs' hb hv => ?_) (fun s₁ hp h' hk => ?_)
  · obtain ⟨hlt, k, H, rfl, I1, cont, stop⟩ := hv
    have I2 : Inv Xg [(a, go)] σ H (s₁.setGen gn gs') := inv_gens I1 (bare_set I1.bare hb)
    refine hy k H _ I2 (fun hk => ?_) stop
    have q := cont hk gs' hb
    cases n with
    | zero => exact q.elim
    | succ m => exact ⟨m, rfl, gs', H, set_same hlt, I2, q⟩
  · obtain ⟨hlt, H, I1, q⟩ := hp
    exact hn H _ ((inv_gens I1 (bare_set I1.bare rfl)).kept (t' := s₁.toks) hk) q
theorem all_loop {Xg : Cx} (hh : X.A.handled = none) (hroom : X.A.depth < recursionLimit) (hgo : GenObj go gn) : ∀ (n : Nat) (s : Shared), Sleeps X Xg a go σ gn true Q n s →
    (∀ b H s', Inv Xg [(a, go)] σ H s' → Q b H → RR (.ok (.ret (.bool b))) s') → codeAny (model X.prog X.w) X.A (.builtin "all.loop" ⟨[.ref a], []⟩) RR s := by
  intro n
  induction n with
  | zero =>
    intro s h hR
    refine codeAny_builtin PySem.F.entry_all_loop ?_
    rw [Around.under_plainId PySem.F.plain_all_loop _]
    show wpAny _ X.A.in1 (pyNext (.ref a) >>= _) _ _ s
    refine wpAny_bind (next_of hh hroom hgo h (fun k H s' I cont stop => ?_) fun H s' I q => ?_)
    · refine wpAny_bind (wpAny_holding (wpAny_truthy_bool ?_))
      refine wpAny_bind (wpAny_letGo ?_)
      cases k with
      | true => obtain ⟨m, e, _⟩ := cont rfl; omega
      | false =>
        simp only [Bool.false_eq_true, if_false]
        exact wpAny_bind (wpAny_rule (wpAny_pure (hR false H s' I (stop (by decide)))))
    · exact wpAny_bind (wpAny_rule (wpAny_pure (hR true H s' I q)))
  | succ n ih =>
    intro s h hR
    refine codeAny_builtin PySem.F.entry_all_loop ?_
    rw [Around.under_plainId PySem.F.plain_all_loop _]
    show wpAny _ X.A.in1 (pyNext (.ref a) >>= _) _ _ s
    refine wpAny_bind (next_of hh hroom hgo h (fun k H s' I cont stop => ?_) fun H s' I q => ?_)
    · refine wpAny_bind (wpAny_holding (wpAny_truthy_bool ?_))
      refine wpAny_bind (wpAny_letGo ?_)
      cases k with
      | true =>
        obtain ⟨m, e, z⟩ := cont rfl
        obtain rfl : n = m := by omega
        simp only [if_true]
        exact wpAny_pure ⟨plainId_quiet PySem.F.plain_all_loop _, ih s' z hR⟩
      | false =>
        simp only [Bool.false_eq_true, if_false]
        exact wpAny_bind (wpAny_rule (wpAny_pure (hR false H s' I (stop (by decide)))))
    · exact wpAny_bind (wpAny_rule (wpAny_pure (hR true H s' I q)))
theorem any_loop {Xg : Cx} (hh : X.A.handled = none) (hroom : X.A.depth < recursionLimit) (hgo : GenObj go gn) : ∀ (n : Nat) (s : Shared), Sleeps X Xg a go σ gn false Q n s →
    (∀ b H s', Inv Xg [(a, go)] σ H s' → Q b H → RR (.ok (.ret (.bool b))) s') → codeAny (model X.prog X.w) X.A (.builtin "any.loop" ⟨[.ref a], []⟩) RR s := by
  intro n
  induction n with
  | zero =>
    intro s h hR
    refine codeAny_builtin PySem.F.entry_any_loop ?_
    rw [Around.under_plainId PySem.F.plain_any_loop _]
    show wpAny _ X.A.in1 (pyNext (.ref a) >>= _) _ _ s
    refine wpAny_bind (next_of hh hroom hgo h (fun k H s' I cont stop => ?_) fun H s' I q => ?_)
    · refine wpAny_bind (wpAny_holding (wpAny_truthy_bool ?_))
      refine wpAny_bind (wpAny_letGo ?_)
      cases k with
      | false => obtain ⟨m, e, _⟩ := cont rfl; omega
      | true =>
        simp only [if_true]
        exact wpAny_bind (wpAny_rule (wpAny_pure (hR true H s' I (stop (by decide)))))
    · exact wpAny_bind (wpAny_rule (wpAny_pure (hR false H s' I q)))
  | succ n ih =>
    intro s h hR
    refine codeAny_builtin PySem.F.entry_any_loop ?_
    rw [Around.under_plainId PySem.F.plain_any_loop _]
    show wpAny _ X.A.in1 (pyNext (.ref a) >>= _) _ _ s
    refine wpAny_bind (next_of hh hroom hgo h (fun k H s' I cont stop => ?_) fun H s' I q => ?_)
    · refine wpAny_bind (wpAny_holding (wpAny_truthy_bool ?_))
      refine wpAny_bind (wpAny_letGo ?_)
      cases k with
      | false =>
        obtain ⟨m, e, z⟩ := cont rfl
        obtain rfl : n = m := by omega
        simp only [Bool.false_eq_true, if_false]
        exact wpAny_pure ⟨plainId_quiet PySem.F.plain_any_loop _, ih s' z hR⟩
      | true =>
        simp only [if_true]
        exact wpAny_bind (wpAny_rule (wpAny_pure (hR true H s' I (stop (by decide)))))
    · exact wpAny_bind (wpAny_rule (wpAny_pure (hR false H s' I q)))
end

/-- the scope of the generator expression: «.0» and its own names are local, no cells are made -/
structure GScope (N : List Str) (sc scope : Scope) (own : List (Str × Nat)) : Prop where
  blk : BlkOk N sc scope own
  co : scope.isCoroutine = false
  cell : ∀ y ∈ scope.names, y.2 ≠ .cell
  dot : scope.names.lookup (".0" : Str) = some NameKind.local
section
variable {X : Cx} {pins : List (Addr × Obj)} {σ : L2.St} {H : Hp} {s : Shared}
theorem gen_inv {scope : Scope} {own : List (Str × Nat)} {fp : List Addr} {it C a : Addr} {code : Value} {A' : Around} {go : Obj} {s2 s5 : Shared} {H1 H5 : Hp} {P : Addr} {ps more : Array Value} (S : GScope X.N X.env.scope scope own) (hN : X.N.Nodup)
    (hA : A'.handled = none) (hAf : A'.frames = some (genEnv scope (cloFrom X.env.cells scope.names []) C code builtinsNs X.env :: X.stack))
    (I2 : Inv X pins σ H1 s2) (f2 : ∀ b ∈ fp, FpOk X pins H1 b ∧ b < s2.heap.objs.size) (I5 : Inv X pins σ H5 s5) (hC : s2.heap.objs.size ≤ C) (haC : a ≠ C) (haS : s2.heap.objs.size ≤ a) (ns : s5.heap.Ns C fun y => if y = ".0" then some (.ref it) else none) (ha : s5.heap.get? a = some go) (hgo : ∀ v, go.data ≠ .cell v) (ha5 : H5 a = none) (hC5 : H5 C = none)
    (hP : H1 P = some (.tbl ps)) (e5 : H5 = upd H1 P (.tbl (ps ++ more))) (keep : ∀ b o, b ≠ P → s2.heap.get? b = some o → s5.heap.get? b = some o) (hos : s5.os = s2.os) :
    Inv (gcx X s2 H1 scope (genEnv scope (cloFrom X.env.cells scope.names []) C code builtinsNs X.env) fp A') [(a, go)] (wipe σ (own.map (·.2))) H5 s5 := by
  have ok := S.blk
  have hfree : ∀ y ∈ scope.names, y.2 = .free → ∃ c, X.env.cells.lookup y.1 = some c := fun y hy e => by
    rcases ok.free y hy e with k | k
    · exact I2.ok.has _ (.inl k)
    · exact I2.ok.has _ (.inr k)
  generalize hcenv : genEnv scope (cloFrom X.env.cells scope.names []) C code builtinsNs X.env = cenv at hAf ⊢
  have hL : cenv.locals = C := by rw [← hcenv]; rfl
  have hcl : cenv.cells = cloFrom X.env.cells scope.names [] := by rw [← hcenv]; rfl
  have hsc : cenv.scope = scope := by rw [← hcenv]; rfl
  have cm : ∀ {y c}, (y, c) ∈ cloFrom X.env.cells scope.names [] → X.env.cells.lookup y = some c ∧ c < s2.heap.objs.size := fun {y c} hm => by
    rcases cloFrom_mem hm with hm | ⟨h1, rfl⟩
    · cases hm
    · obtain ⟨c, hc⟩ := hfree _ h1 rfl
      rw [hc]
      obtain ⟨w, z⟩ := I2.cell _ _ hc
      exact ⟨rfl, z.lt⟩
  have mem : ∀ {y c}, cenv.cells.lookup y = some c → X.env.cells.lookup y = some c ∧ c < s2.heap.objs.size := fun {y c} e => by
    rw [hcl] at e
    exact cm (PySem.mem_of_lookup e)
  have look : ∀ {y}, scope.names.lookup y = some .free → ∃ c, cenv.cells.lookup y = some c ∧ X.env.cells.lookup y = some c := fun {y} hl => by
    have hy : (y, NameKind.free) ∈ scope.names := PySem.mem_of_lookup hl
    obtain ⟨c', e'⟩ := mem_lookup (cloFrom_has (cells := X.env.cells) (acc := []) hy)
    rw [← hcl] at e'
    exact ⟨c', e', (mem e').1⟩
  have nP : ∀ b, H1 b = none → b ≠ P := fun b e z => by rw [z, hP] at e; cases e
  have okG : (gcx X s2 H1 scope cenv fp A').Ok := by
    refine ⟨I2.ok.mod, by show cenv.scope.kind = _; rw [hsc]; exact ok.kind, by show cenv.globals = _; rw [← hcenv]; exact I2.ok.glob, by show cenv.builtins = _; rw [← hcenv]; rfl, by show s2.heap.objs.size ≤ cenv.locals; rw [hL]; exact hC,
      fun y z c e1 e2 => I2.ok.inj y z c (mem e1).1 (mem e2).1, fun y hy => ?_, (fun y c z => by cases z), fun _ => hA, hAf, .inr ⟨rfl, (by show cenv.frame = some cenv.locals; rw [← hcenv]; rfl)⟩, fun b hb => ⟨?_, fun y c e z => ?_⟩, I2.bs, Nat.le_trans I2.ok.bsz I2.sz, fun b o e hb => ?_, fun b hb z => ?_, I2.stack, I2.stkFree⟩
    · show ∃ c, cenv.cells.lookup y = some c
      have hk : cenv.kindOf y = scope.names.lookup y := by unfold Env.kindOf; rw [hsc]
      rcases hy with hy | hy
      · have hy : cenv.kindOf y = some .cell := hy
        rw [hk] at hy
        exact absurd rfl (S.cell _ (PySem.mem_of_lookup hy))
      · have hy : cenv.kindOf y = some .free := hy
        rw [hk] at hy
        obtain ⟨c, e, _⟩ := look hy
        exact ⟨c, e⟩
    · show b ≠ cenv.locals
      rw [hL]; exact Nat.ne_of_lt (Nat.lt_of_lt_of_le (f2 b hb).2 hC)
    · exact (f2 b hb).1.2.2.2.2.1 y c (mem e).1 z
    · rcases (f2 b hb).1.2.2.2.1 with z | z
      · exact I2.ok.noex b o e z
      · exact absurd (Nat.lt_of_lt_of_le (Heap.lt_size e) (Nat.le_trans I2.ok.bsz z)) (Nat.lt_irrefl _)
    · rcases List.mem_cons.mp (I2.stkSub b z) with z | z
      · exact (f2 b hb).1.2.1 z
      · exact (f2 b hb).1.2.2.1 z
  have un : Un (frs X.stack) fp H1 H5 s2.heap s5.heap := by
    subst e5
    refine ⟨fun b o e n _ _ => keep b o (nP b n) e, fun b o e n _ _ => ⟨o.slots, keep b o (nP b n) e⟩, fun b o e n _ => by rw [upd_ne (nP b n)]; exact n, fun b o e _ => ?_, fun b xs e => ?_, fun b o u e => ?_, fun b qs e => ?_⟩
    · by_cases hb : b = P
      · subst hb
        exact ⟨_, I5.hok b _ upd_same⟩
      · exact ⟨o, keep b o hb e⟩
    · rw [upd_ne fun z => by rw [z, hP] at e; cases e]; exact e
    · rw [upd_ne fun z => by rw [z, hP] at e; cases e]; exact e
    · by_cases hb : b = P
      · subst hb
        rw [hP] at e; cases e
        exact ⟨more, upd_same⟩
      · exact ⟨#[], by rw [upd_ne hb, e]; simp⟩
  refine ⟨okG, hos, I5.bare, un, ⟨_, by show s5.heap.Ns cenv.locals _; rw [hL]; exact ns, fun i y av e1 e2 e3 => ?_⟩, fun y c e => I5.cell y c (mem e).1, by show H5 cenv.locals = none; rw [hL]; exact hC5, fun y c e => I5.freeC y c (mem e).1, fun p hp => ?_, I5.hok, by rw [wipe_length]; exact I5.len⟩
  · obtain ⟨e2, hne⟩ := wipe_some e2
    have hk : cenv.kindOf y = scope.names.lookup y := by unfold Env.kindOf; rw [hsc]
    have no : ∀ k', scope.names.lookup y = some k' → ¬ (k' = .local ∨ k' = .cell) := fun k' e hh => by
      rcases ok.own _ (PySem.mem_of_lookup e) hh with e' | e'
      · obtain ⟨p, hp, hpy⟩ := List.mem_map.mp e'
        have e3 := ok.ix p hp
        have : p.1 = y := hpy
        rw [this] at e3
        exact hne (List.mem_map.mpr ⟨p, hp, nodup_ix hN e3 e1⟩)
      · exact e' (List.mem_of_getElem? e1)
    have e3 : Vis cenv.scope y := e3
    rw [hsc] at e3
    have hfr : scope.names.lookup y = some .free := by
      rcases e3 with e3 | e3 | e3
      · exact absurd (.inl rfl) (no _ e3)
      · exact absurd (.inr rfl) (no _ e3)
      · exact e3
    obtain ⟨m, hn, hl⟩ := I5.loc
    have hvis : Vis X.env.scope y := (ok.free _ (PySem.mem_of_lookup hfr) rfl).elim (fun k => .inr (.inl k)) (fun k => .inr (.inr k))
    obtain ⟨w, r, q⟩ := hl i y av e1 e2 hvis
    refine ⟨w, r, .inr ⟨.inr (by show cenv.kindOf y = _; rw [hk]; exact hfr), ?_⟩⟩
    obtain ⟨c, h1, h2⟩ := look hfr
    rcases q with ⟨k, _⟩ | ⟨_, c', e', z⟩
    · have k : X.env.scope.names.lookup y = some .local := k
      rcases ok.free _ (PySem.mem_of_lookup hfr) rfl with k' | k' <;> rw [show X.env.scope.names.lookup y = _ from k'] at k <;> cases k
    · rw [h2] at e'; cases e'
      exact ⟨c, h1, z⟩
  · have e : p = (a, go) := by simpa using hp
    subst e
    refine ⟨ha, ha5, by show a ≠ cenv.locals; rw [hL]; exact haC, fun z => ?_, hgo⟩
    have z : a ∈ frs X.stack := z
    rcases List.mem_cons.mp (I2.stkSub a z) with z | z
    · exact absurd (Nat.lt_of_lt_of_le I2.lt haS) (by rw [z]; exact Nat.lt_irrefl _)
    · exact I2.nofs haS z
end
end DG

set_option Elab.async false
set_option linter.all false
set_option maxRecDepth 100000
set_option maxHeartbeats 2000000
namespace DG
open PySem PySem.Spec PyProof.Rows L2 DL
open GxR (TabB TabG Tabbed inv_tab sh_eta)
section
variable {X : Cx} {pins : List (Addr × Obj)} {σ : L2.St} {H : Hp} {s : Shared} {elt tg iter : Expr} {ifs : List Expr} {scope : Scope} {own : List (Str × Nat)} {gpos pos p : Pos} {c P : Addr} {k : Nat} {wi : TI} {g : TG} {tt : TT} {te : TE}
theorem gA_hd {A : Around} {it : Addr} {cenv : Env} : (gA A elt tg iter ifs scope pos it cenv).handled = A.handled := by first | rfl | simp [Around.over, marksOver]
theorem gA_depth {A : Around} {it : Addr} {cenv : Env} : (gA A elt tg iter ifs scope pos it cenv).depth = A.depth + 1 := by
  first | rfl | simp [Around.over, Code.weight, Code.isCreation, Code.isGuard, Code.isCaller, Code.frames, Code.isFrame, frameCount]
theorem gA_units {A : Around} {it : Addr} {cenv : Env} : (gA A elt tg iter ifs scope pos it cenv).units = A.units + 5 := by
  first | rfl | simp [Around.over, Code.cUnits, Code.frames, Code.isFrame, unitsOf]
theorem gA_frames {A : Around} {it : Addr} {cenv : Env} {l : List Env} (h : A.frames = some l) : (gA A elt tg iter ifs scope pos it cenv).frames = some (cenv :: l) := by
  show pushEnvs (gCode elt tg iter ifs scope pos it cenv).envs (pushEnvs (envsOf (([] : List Frame).map Frame.where_)) A.frames) = _
  rw [h]
  rfl
theorem gA_room {A : Around} {it : Addr} {cenv : Env} (hr : Room (k + 1) A) : Room k (gA A elt tg iter ifs scope pos it cenv) :=
  ⟨by rw [gA_hd]; exact hr.hd, by rw [gA_depth]; have := hr.dp; omega, by rw [gA_units]; have := hr.un; omega⟩
theorem gen_make {Q' : Value → Shared → Prop} {R : It → Hp → Prop} (hr : Room (k + 1) X.A) (TB : TabB X.base X.mg c P) (hcode : X.env.code = .ref c) (S : GScope X.N X.env.scope scope own) (hN : X.N.Nodup) (hi : PI X tg iter wi)
    (hs : ∀ v, genFold iter X.env v = pure v) (I : Inv X pins σ H s) (h : wi σ H fun J H1 => TabG H1 P ∧ R J H1)
    (hQ : ∀ (J : It) (H1 H5 : Hp) (a it C : Addr) (go : Obj) (gn : Nat) (code : Value) (fp : List Addr) (tn : Nat → Heap → Prop) (s2 s5 : Shared), R J H1 → Tabbed P H1 H5 →
      Inv (gcx X s2 H1 scope (genEnv scope (cloFrom X.env.cells scope.names []) C code builtinsNs X.env) fp (gA X.A elt tg iter ifs scope gpos it (genEnv scope (cloFrom X.env.cells scope.names []) C code builtinsNs X.env))) [(a, go)] (wipe σ (own.map (·.2))) H5 s5 →
      GenObj go gn → Turn X.prog X.w X.K tg J fp it tn → tn 0 s5.heap → (∀ b ∈ fp, H5 b = none ∧ a ≠ b) → s5.gens[gn]? = some (.fresh (sCode elt tg iter ifs scope gpos it (genEnv scope (cloFrom X.env.cells scope.names []) C code builtinsNs X.env))) →
      (∀ H' s', Inv (gcx X s2 H1 scope (genEnv scope (cloFrom X.env.cells scope.names []) C code builtinsNs X.env) fp (gA X.A elt tg iter ifs scope gpos it (genEnv scope (cloFrom X.env.cells scope.names []) C code builtinsNs X.env))) [(a, go)] (wipe σ (own.map (·.2))) H' s' → Inv X pins σ H' s') →
      Q' (.ref a) s5) :
    wpAny (model X.prog X.w) X.A (eval (.GeneratorExp elt [⟨tg, iter, ifs, 0⟩] scope gpos) X.env) Q' X.xe s := by
  have hfree : ∀ y ∈ scope.names, y.2 = .free → ∃ c, X.env.cells.lookup y.1 = some c := fun y hy e => by
    rcases S.blk.free y hy e with k | k
    · exact I.ok.has _ (.inl k)
    · exact I.ok.has _ (.inr k)
  refine wpAny_GeneratorExp_make S.co (closure_ok hfree) S.cell S.dot S.blk.kind hr.depth ?_ hs
  refine thn (hi.run pins s σ H _ I h) fun xv s1 hx => thn hx fun itv s2 h2 => ?_
  obtain ⟨it, fp, tn, J, H1, e, I2, T, st2, f2, ⟨ps, hP, ht⟩, q⟩ := h2
  subst e
  refine ⟨I2.nolimit, ?_⟩
  have hPs : s2.heap.get? P = some { cls := .none, data := .fields ps } := I2.hok P _ hP
  have hPlt : P < s2.heap.objs.size := Heap.lt_size hPs
  have cd : PySem.W.CodeHd s2.heap c P := TB.code.keeps I2.bk
  have f2' : ∀ b ∈ fp, FpOk X pins H1 b ∧ b < s2.heap.objs.size := fun b hb => by
    obtain ⟨o, e, _⟩ := T.obj _ _ st2 b hb
    exact ⟨f2 b hb, Heap.lt_size e⟩
  have cont : ∀ (code : Value) (h3 : Heap) (tk : Nat) (ps' : Array Value), Heap.ExtBut P s2.heap h3 → s2.heap.objs.size ≤ h3.objs.size → h3.get? P = some { cls := .none, data := .fields ps' } → (∃ more, ps' = ps ++ more) → TriplesOk ps'.toList →
      wpAny (model X.prog X.w) X.A (builtinsFor X.env.globals X.env.builtins) (fun bi s₄ =>
        ∀ h', h'.Ns s₄.heap.objs.size (fun y => if y = ".0" then some (.ref it) else none) → Heap.SameBut s₄.heap.objs.size (s₄.heap.push { cls := .type "frame", data := .dict #[] }) h' →
          Q' (.ref h'.objs.size) { s₄ with
            gens := s₄.gens.push (.fresh (.compStart (.GeneratorExp elt [⟨tg, iter, ifs, 0⟩] scope gpos) 0 (.ref it) .none (genEnv scope (cloFrom X.env.cells scope.names []) s₄.heap.objs.size code bi X.env))),
            toks := s₄.toks + 1 + 1 + 1,
            heap := h'.push { cls := .type "generator", data := .fields #[.int s₄.gens.size 0, .str "<genexpr>" (s₄.toks + 1), .str (X.env.qual ++ "<genexpr>") (s₄.toks + 1 + 1)] } }) X.xe { s2 with heap := h3, toks := tk } := by
    intro code h3 tk ps' hx hsz hP3 hmore ht3
    obtain ⟨bm, ob, e1, e2, e3, e4, e5, e6, e7, e8⟩ := TB.bm
    have keep3 : ∀ b u, b ≠ P → s2.heap.get? b = some u → h3.get? b = some u := fun b u hb e => hx b u hb e
    refine wpAny_builtinsFor (m := X.mg) (by rw [I.ok.glob]; exact (I2.mod.glob.keeps I2.bk).extBut hx TB.gP) e1 e2 (keep3 _ _ e4 (I2.bk _ _ e5)) e6 e7 e8 fun h' hns hsb => ?_
    have hsz' : h'.objs.size = h3.objs.size + 1 := by
      have := hsb.1
      rw [Heap.size_push] at this
      exact this
    have keep' : ∀ b o, h3.get? b = some o → h'.get? b = some o := fun b o e => hsb.extBut b o (Nat.ne_of_lt (Heap.lt_size e)) (Heap.get?_push_of_some _ e)
    obtain ⟨more, em⟩ := hmore
    have keep5 : ∀ b o, b ≠ P → s2.heap.get? b = some o → (h'.push { cls := .type "generator", data := .fields #[.int s2.gens.size 0, .str "<genexpr>" (tk + 1), .str (X.env.qual ++ "<genexpr>") (tk + 1 + 1)] }).get? b = some o :=
      fun b o hb e => Heap.get?_push_of_some _ (keep' b o (keep3 b o hb e))
    have J5 := inv_tab (more := more) (h' := h'.push { cls := .type "generator", data := .fields #[.int s2.gens.size 0, .str "<genexpr>" (tk + 1), .str (X.env.qual ++ "<genexpr>") (tk + 1 + 1)] })
      (g' := s2.gens.push (.fresh (.compStart (.GeneratorExp elt [⟨tg, iter, ifs, 0⟩] scope gpos) 0 (.ref it) .none (genEnv scope (cloFrom X.env.cells scope.names []) h3.objs.size code builtinsNs X.env)))) (d' := s2.drawn) (t' := tk + 1 + 1 + 1) I2 hP keep5
      (by rw [← em]; exact Heap.get?_push_of_some _ (keep' P _ hP3)) (I2.bare.push rfl)
    have fresh5 : ∀ b, s2.heap.objs.size ≤ b → (upd H1 P (.tbl (ps ++ more))) b = none := fun b hb => by
      rw [upd_ne (Nat.ne_of_gt (Nat.lt_of_lt_of_le hPlt hb))]
      exact I2.hok.fresh hb
    have haS : s2.heap.objs.size ≤ h'.objs.size := by rw [hsz']; exact Nat.le_succ_of_le hsz
    have G := gen_inv (A' := gA X.A elt tg iter ifs scope gpos it (genEnv scope (cloFrom X.env.cells scope.names []) h3.objs.size code builtinsNs X.env)) (code := code) (it := it) (fp := fp) (C := h3.objs.size) (a := h'.objs.size)
      (go := { cls := .type "generator", data := .fields #[.int s2.gens.size 0, .str "<genexpr>" (tk + 1), .str (X.env.qual ++ "<genexpr>") (tk + 1 + 1)] }) S hN (by rw [gA_hd]; exact hr.hd) (gA_frames I.ok.frames)
      I2 f2' J5 hsz (by rw [hsz']; exact Nat.succ_ne_self _) haS (hns.push _) (Heap.get?_push_size _ rfl) (fun v z => by cases z) (fresh5 _ haS) (fresh5 _ hsz) hP rfl keep5 rfl
    refine hQ J H1 _ h'.objs.size it h3.objs.size _ s2.gens.size code fp tn s2 _ q ⟨⟨ps ++ more, upd_same, by rw [← em]; exact ht3⟩, fun b hb => upd_ne hb⟩ G ⟨_, _, rfl, rfl, rfl⟩ T ?_ ?_ ?_ fun H' s' I6 => ?_
    · refine T.keep _ _ _ st2 fun b hb o e => keep5 b o (fun z => ?_) e
      subst z
      have n := (f2' b hb).1.1
      rw [hP] at n; cases n
    · intro b hb
      obtain ⟨z1, z2⟩ := f2' b hb
      refine ⟨?_, fun z => ?_⟩
      · rw [upd_ne fun z => by subst z; have n := z1.1; rw [hP] at n; cases n]
        exact z1.1
      · rw [← z] at z2
        exact absurd (Nat.lt_of_lt_of_le z2 haS) (Nat.lt_irrefl _)
    · show (s2.gens.push _)[s2.gens.size]? = _
      exact Array.getElem?_push_size ..
    · exact I2.call' (ch := fp) I6.os I6.base I6.hok I6.bare fun b hb => ⟨(f2 b hb).2.2.2.1, (f2 b hb).2.1, (f2 b hb).2.2.2.2.1, (f2 b hb).2.2.2.2.2⟩
  cases hf : codeAmong gpos ps.toList with
  | none =>
    refine wpAny_genexprCodeX hcode (cd.code hPs ht) (cd.tab hPs) hf fun c' h' tk hx hge hlt hco' _ htab' _ => ?_
    obtain ⟨o1, vs, f1, tf, fl, tg, inF, tx, tt, op, _, _, _, _, _, _, _, _, _, htr, _⟩ := hco'
    exact cont _ h' tk _ hx (Nat.le_trans hge (Nat.le_of_lt hlt)) htab'.2 ⟨_, rfl⟩ htr
  | some cv =>
    refine wpAny_genexprCode_hit hcode (cd.code hPs ht) hf ?_
    exact cont cv s2.heap s2.toks ps (Heap.ExtBut.refl _ _) (Nat.le_refl _) hPs ⟨#[], by simp⟩ ht

/-- all (c = true), any (c = false) -/
def genR (P : Addr) (g : TG) (tt : TT) (te : TE) (vs : List Nat) (σ : L2.St) (c : Bool) (Q : VK) : It → Hp → Prop := fun J H1 => ∀ H2, Tabbed P H1 H2 → ∃ W : Nat → Nat → Hp → Prop, (∃ m : Nat, W 0 m H2) ∧ Turns J g tt te vs σ c (fun b H' => Q (.bl b) H') W
def tGen (P : Addr) (wi : TI) (g : TG) (tt : TT) (te : TE) (vs : List Nat) (c : Bool) : TE := fun σ H Q => wi σ H fun J H1 => TabG H1 P ∧ genR P g tt te vs σ c Q J H1
/-- what is asked of a piece in the generator expression's frame -/
abbrev InGen (X : Cx) (scope : Scope) (k : Nat) (Φ : Cx → Prop) : Prop := ∀ (s : Shared) (H : Hp) (C : Addr) (cl : List (Str × Addr)) (code : Value) (fp : List Addr) (A' : Around), Room k A' → Φ (gcx X s H scope (genEnv scope cl C code builtinsNs X.env) fp A')
theorem pe_allG (hr : Room (k + 1) X.A) (hg : Gl X "all") (hm : X.mg "all" = none) (hb : bootBuiltins "all" = some (.builtin "all")) (TB : TabB X.base X.mg c P) (hcode : X.env.code = .ref c) (S : GScope X.N X.env.scope scope own) (hN : X.N.Nodup) (hi : PI X tg iter wi)
    (hG : InGen X scope k fun Y => PG Y tg g) (hT : InGen X scope k fun Y => PTs Y ifs tt) (hE : InGen X scope k fun Y => PE Y elt te) (hs : ∀ v, genFold iter X.env v = pure v)
    (he : starEach [.GeneratorExp elt [⟨tg, iter, ifs, 0⟩] scope gpos] X.env = (false, eval (.GeneratorExp elt [⟨tg, iter, ifs, 0⟩] scope gpos) X.env) :: starEach [] X.env := by rfl) :
    PE X (.Call (.Name "all" p) [.GeneratorExp elt [⟨tg, iter, ifs, 0⟩] scope gpos] [] pos) (tGen P wi g tt te (own.map (·.2)) true) := by
  refine ⟨fun pins s σ H Q I h => ?_⟩
  refine wpAny_Call_Name_kw (ld_blt I hg hm hb ?_)
  refine PyProof.Rows.callWith_builtin1 ?_ he (by rfl)
  rw [he]
  show wpAny _ _ (spliced ((false, eval (.GeneratorExp elt [⟨tg, iter, ifs, 0⟩] scope gpos) X.env) :: backTo pos (starEach [] X.env))) _ _ s
  refine Calls.spliced_cons (gen_make (R := genR P g tt te (List.map (fun (x : Str × Nat) => x.2) own) σ true Q) hr TB hcode S hN hi hs I h
    fun J H1 H5 a it C go gn code fp tn s2 s5 hR htb G hgo T st hfp hgs back => ?_)
  obtain ⟨W, ⟨m, w0⟩, turn⟩ := hR H5 htb
  have isg := hgo.is (G.pin (a, go) (List.mem_append_right _ List.mem_cons_self)).1
  refine Calls.spliced_nil ?_
  refine call_function_tree PySem.F.kind_all PySem.F.plain_all PySem.F.entry_all (PySem.F.args_all1 _) ?_
  unfold Builtin.«all»
  refine wpAny_bind (m := oneArg "all" _) (wpAny_pure ?_)
  refine wpAny_bind (wpAny_pyIter_gen isg ?_)
  have rm := gA_room (elt := elt) (tg := tg) (iter := iter) (ifs := ifs) (scope := scope) (pos := gpos) (it := it) (cenv := genEnv scope (cloFrom X.env.cells scope.names []) C code builtinsNs X.env) hr
  have lt : gn < s5.gens.size := by
    rcases Nat.lt_or_ge gn s5.gens.size with z | z
    · exact z
    · rw [Array.getElem?_eq_none z] at hgs; cases hgs
  refine wpAny_pure ⟨plainId_quiet PySem.F.plain_all_loop _, all_loop hr.hd hr.depth hgo (m + 1) s5 ⟨_, H5, hgs, G, rfl, seg_start hr.hd S.co T (hG _ _ _ _ _ _ _ rm) (hT _ _ _ _ _ _ _ rm) (hE _ _ _ _ _ _ _ rm) turn (Nat.le_refl m) (inv_gens G (bare_set G.bare rfl)) st hfp ?_ w0⟩ fun b H' s' I6 q => ?_⟩
  · show gn < (s5.gens.setIfInBounds gn .running).size
    rw [Array.size_setIfInBounds]; exact lt
  · exact ⟨.bl b, H', back H' s' I6, rfl, q⟩
theorem pe_anyG (hr : Room (k + 1) X.A) (hg : Gl X "any") (hm : X.mg "any" = none) (TB : TabB X.base X.mg c P) (hcode : X.env.code = .ref c) (S : GScope X.N X.env.scope scope own) (hN : X.N.Nodup) (hi : PI X tg iter wi)
    (hG : InGen X scope k fun Y => PG Y tg g) (hT : InGen X scope k fun Y => PTs Y ifs tt) (hE : InGen X scope k fun Y => PE Y elt te) (hs : ∀ v, genFold iter X.env v = pure v)
    (he : starEach [.GeneratorExp elt [⟨tg, iter, ifs, 0⟩] scope gpos] X.env = (false, eval (.GeneratorExp elt [⟨tg, iter, ifs, 0⟩] scope gpos) X.env) :: starEach [] X.env := by rfl) :
    PE X (.Call (.Name "any" p) [.GeneratorExp elt [⟨tg, iter, ifs, 0⟩] scope gpos] [] pos) (tGen P wi g tt te (own.map (·.2)) false) := by
  refine ⟨fun pins s σ H Q I h => ?_⟩
  refine wpAny_Call_Name_kw (ld_blt I hg hm boot_any ?_)
  refine PyProof.Rows.callWith_builtin1 ?_ he (by rfl)
  rw [he]
  show wpAny _ _ (spliced ((false, eval (.GeneratorExp elt [⟨tg, iter, ifs, 0⟩] scope gpos) X.env) :: backTo pos (starEach [] X.env))) _ _ s
  refine Calls.spliced_cons (gen_make (R := genR P g tt te (List.map (fun (x : Str × Nat) => x.2) own) σ false Q) hr TB hcode S hN hi hs I h
    fun J H1 H5 a it C go gn code fp tn s2 s5 hR htb G hgo T st hfp hgs back => ?_)
  obtain ⟨W, ⟨m, w0⟩, turn⟩ := hR H5 htb
  have isg := hgo.is (G.pin (a, go) (List.mem_append_right _ List.mem_cons_self)).1
  refine Calls.spliced_nil ?_
  refine call_function_tree PySem.F.kind_any PySem.F.plain_any PySem.F.entry_any (PySem.F.args_any1 _) ?_
  unfold Builtin.«any»
  refine wpAny_bind (m := oneArg "any" _) (wpAny_pure ?_)
  refine wpAny_bind (wpAny_pyIter_gen isg ?_)
  have rm := gA_room (elt := elt) (tg := tg) (iter := iter) (ifs := ifs) (scope := scope) (pos := gpos) (it := it) (cenv := genEnv scope (cloFrom X.env.cells scope.names []) C code builtinsNs X.env) hr
  have lt : gn < s5.gens.size := by
    rcases Nat.lt_or_ge gn s5.gens.size with z | z
    · exact z
    · rw [Array.getElem?_eq_none z] at hgs; cases hgs
  refine wpAny_pure ⟨plainId_quiet PySem.F.plain_any_loop _, any_loop hr.hd hr.depth hgo (m + 1) s5 ⟨_, H5, hgs, G, rfl, seg_start hr.hd S.co T (hG _ _ _ _ _ _ _ rm) (hT _ _ _ _ _ _ _ rm) (hE _ _ _ _ _ _ _ rm) turn (Nat.le_refl m) (inv_gens G (bare_set G.bare rfl)) st hfp ?_ w0⟩ fun b H' s' I6 q => ?_⟩
  · show gn < (s5.gens.setIfInBounds gn .running).size
    rw [Array.size_setIfInBounds]; exact lt
  · exact ⟨.bl b, H', back H' s' I6, rfl, q⟩
end
end DG

set_option Elab.async false
set_option linter.all false
set_option maxRecDepth 100000
set_option maxHeartbeats 2000000
namespace DL
open PySem PySem.Spec PySem.SeqAt PySem.W L2 DG
open GxR (TabB TabG Tabbed)

/-! ### all, any of a generator expression -/
theorem HeapOk.tabbed {G : Gx} {F H H' : Hp} {ad : Option Addr} {w : Wd} {P : Addr} (h : HeapOk G F ad H w) (hP : G.T P) (t : Tabbed P H H') : HeapOk G F ad H' w ∧ Grow G ad F H F H' := by
  obtain ⟨⟨ps, e, ok⟩, same⟩ := t
  have nF : ∀ a, F a ≠ none → a ≠ P := fun a n z => h.noT a n (by rw [z]; exact hP)
  refine ⟨⟨fun a o q => ?_, h.noT, h.noD, fun a q => ?_, fun a q => ?_⟩, fun _ _ q => q, fun a o q n1 n2 => ?_, fun _ _ q => q⟩
  · rw [same a (nF a (by rw [q]; exact fun z => by cases z))]; exact h.sub a o q
  · by_cases z : a = P
    · subst z; exact ⟨ps, e, ok⟩
    · obtain ⟨p2, q1, q2⟩ := h.tab a q
      exact ⟨p2, by rw [same a z]; exact q1, q2⟩
  · obtain ⟨vs, q1, q2⟩ := h.dr a q
    refine ⟨vs, ?_, q2⟩
    rw [same a fun z => ?_]
    · exact q1
    · subst z
      obtain ⟨p2, q3, _⟩ := h.tab a hP
      rw [q1] at q3; cases q3
  · rw [same a fun z => n1 (by rw [z]; exact hP)]; exact q
/-- the turns: c, the truth that goes on -/
def gnL (c : Bool) (tgt : Tg) (tt : Ev → Wd → R Bool) (fe : Ef) (ρ : Ev) : List D → Wd → R D
  | [], w => .ok (.bool c) w
  | d :: ds, w => match tgt d ρ with
    | none => .bad
    | some ρ1 => (tt ρ1 w).bind fun b w1 => if b = true then (fe ρ1 w1).bind fun y w2 => match y with
      | .bool k => if k = c then gnL c tgt tt fe ρ ds w2 else .ok (.bool (!c)) w2
      | _ => .bad
      else gnL c tgt tt fe ρ ds w1
def eGen (c : Bool) (fi : Ev → Wd → R (List D)) (tgt : Tg) (tt : Ev → Wd → R Bool) (fe : Ef) (vs : List Nat) : Ef := fun ρ w => (fi ρ w).bind fun ds w1 => (gnL c tgt tt fe (wipeE ρ vs) ds w1).calm
section
variable {md md1 : Bool} {X : Cx} {T : Addr → Prop} {Wx : WX} {elt tg iter : Expr} {ifs : List Expr} {scope : Scope} {own : List (Str × Nat)} {gpos pos p : Pos} {fi : Ev → Wd → R (List D)} {tgt : Tg} {ix : List Nat} {tt : Ev → Wd → R Bool} {fe : Ef} {cc P : Addr} {k : Nat}
theorem gen_in {c : Bool} {vs : List Nat} {σ : St} {H : Hp} {Q : VK} (hP : T P) (hix : ∀ i ∈ ix, i ∈ vs) (h : tD (gx X T) Wx (eGen c fi tgt tt fe vs) σ H Q) : tGen P (tI md (gx X T) Wx fi) (tG md (gx X T) ix tgt) (tT (gx X T) W0 tt) (tD (gx X T) W0 fe) vs c σ H Q := by
  obtain ⟨F, ad, ρ, w, a0, p⟩ := h
  refine ⟨F, ad, ρ, w, a0, (p.bind a0.hp).imp fun ds w1 F1 H1 h1 g1 p1 J hJ => ⟨h1.tab P hP, fun H2 htb => ?_⟩⟩
  obtain ⟨h2, g2⟩ := h1.tabbed hP htb
  have a1 := a0.grow h1 g1
  refine ⟨fun i m H' => ∃ F2 w2, HeapOk (gx X T) F2 ad H' w2 ∧ Grow (gx X T) ad F1 H1 F2 H' ∧ m = ds.length - i ∧ i ≤ ds.length ∧
      Post (gx X T) Wx σ F1 ad H1 (fun d _ F' H' => ∀ v, Rep X.K F' v d → Q v H') (gnL c tgt tt fe (wipeE ρ vs) (ds.drop i) w2).calm, ⟨ds.length, F1, w1, h2, g2, rfl, Nat.zero_le _, p1⟩, fun i m H' hW => ?_⟩
  obtain ⟨F2, w2, h3, g3, hm, hi, p3⟩ := hW
  obtain ⟨k1, k2, k3⟩ := hJ F2 H' w2 h3 g3.mono
  by_cases hlt : i < ds.length
  · refine .inr ⟨k1 i hlt, fun H4 => ∃ F4 w4, HeapOk (gx X T) F4 ad H4 w4 ∧ Grow (gx X T) ad F1 H1 F4 H4 ∧
      Post (gx X T) Wx σ F1 ad H1 (fun d _ F' H' => ∀ v, Rep X.K F' v d → Q v H') (gnL c tgt tt fe (wipeE ρ vs) (ds.drop (i + 1)) w4).calm, fun H4 z => ?_, fun x H4 y => ?_⟩
    · obtain ⟨F4, w4, z1, z2, z3⟩ := z
      exact ⟨ds.length - (i + 1), by omega, F4, w4, z1, z2, rfl, hlt, z3⟩
    · obtain ⟨F4, d, e1, h4, g4, r4⟩ := k3 i x H4 hlt y
      rw [drop_cons e1] at p3
      unfold gnL at p3
      have g14 := g3.then h3 g4
      have a4 : At (gx X T) F4 ad (wipe σ vs) H4 (wipeE ρ vs) w2 := ⟨h4, (a1.en.grow a1.hp g14).wipe⟩
      cases et : tgt d (wipeE ρ vs) with
      | none => simp only [et] at p3; exact p3.elim
      | some ρ1 =>
        simp only [et] at p3
        refine ⟨F4, ad, wipeE ρ vs, w2, d, ρ1, a4, r4, et, fun σ2 en2 _ os => ⟨?_, ?_⟩⟩
        · have e := wipe_eq (σ := wipe σ vs) (vs := vs) os.1 fun j hj => os.2 j fun z => hj (hix j z)
          rw [e]; exact wipe_wipe
        · refine ⟨F4, ad, ρ1, w2, ⟨h4, en2⟩, ?_⟩
          cases eb : tt ρ1 w2 with
          | bad => simp only [eb] at p3; exact p3.elim
          | exc c w => simp only [eb] at p3; exact p3.elim
          | ok b w5 =>
            simp only [eb] at p3
            intro F5 H5 h5 g5
            have g15 := g14.then h4 g5
            cases b with
            | false =>
              show (if _ then _ else _)
              rw [if_neg Bool.false_ne_true]
              exact ⟨F5, w5, h5, g15, p3⟩
            | true =>
              show (if _ then _ else _)
              rw [if_pos rfl]
              have p3 : Post (gx X T) Wx σ F1 ad H1 (fun d _ F' H' => ∀ v, Rep X.K F' v d → Q v H')
                ((fe ρ1 w5).bind fun y w2 => match y with
                  | .bool k => if k = c then gnL c tgt tt fe (wipeE ρ vs) (ds.drop (i + 1)) w2 else .ok (.bool (!c)) w2
                  | _ => .bad).calm := p3
              refine ⟨F5, ad, ρ1, w5, ⟨h5, en2.grow h4 g5⟩, ?_⟩
              cases ef : fe ρ1 w5 with
              | bad => simp only [ef] at p3; exact p3.elim
              | exc c w => simp only [ef] at p3; exact p3.elim
              | ok y w6 =>
                simp only [ef] at p3
                intro F6 H6 h6 g6 v rv
                have g16 := g15.then h5 g6
                cases y with
                | bool kk =>
                  cases rv
                  have p3 : Post (gx X T) Wx σ F1 ad H1 (fun d _ F' H' => ∀ v, Rep X.K F' v d → Q v H') (if kk = c then gnL c tgt tt fe (wipeE ρ vs) (ds.drop (i + 1)) w6 else .ok (.bool (!c)) w6).calm := p3
                  refine ⟨kk, rfl, ?_⟩
                  by_cases hk : kk = c
                  · rw [if_pos hk] at p3 ⊢
                    exact ⟨F6, w6, h6, g16, p3⟩
                  · rw [if_neg hk] at p3 ⊢
                    exact p3 F6 H6 h6 g16 _ (.bl _)
                | _ => exact p3.elim
  · have e : i = ds.length := by omega
    subst e
    rw [List.drop_length] at p3
    exact .inl ⟨k2, p3 F2 H' h3 g3 _ (.bl c)⟩
theorem se_all (hP : T P) (hr : Room (k + 1) X.A) (hgl : Gl X "all") (hm : X.mg "all" = none) (hb : bootBuiltins "all" = some (.builtin "all")) (TB : TabB X.base X.mg cc P) (hcode : X.env.code = .ref cc) (S : GScope X.N X.env.scope scope own) (hN : X.N.Nodup) (hix : ∀ i ∈ ix, i ∈ own.map (·.2))
    (hi : SI md (gx X T) Wx X tg iter fi) (hg : InGen X scope k fun Y => SG md (gx X T) Y tg ix tgt) (ht : InGen X scope k fun Y => PTs Y ifs (tT (gx X T) W0 tt)) (he : InGen X scope k fun Y => SE (gx X T) W0 Y elt fe) (hs : ∀ v, genFold iter X.env v = pure v := by intro _; rfl)
    (hst : starEach [.GeneratorExp elt [⟨tg, iter, ifs, 0⟩] scope gpos] X.env = (false, eval (.GeneratorExp elt [⟨tg, iter, ifs, 0⟩] scope gpos) X.env) :: starEach [] X.env := by rfl) :
    SE (gx X T) Wx X (.Call (.Name "all" p) [.GeneratorExp elt [⟨tg, iter, ifs, 0⟩] scope gpos] [] pos) (eGen true fi tgt tt fe (own.map (·.2))) :=
  PE.imp (pe_allG hr hgl hm hb TB hcode S hN hi hg ht he hs hst) fun σ H Q h => gen_in hP hix h
theorem se_any (hP : T P) (hr : Room (k + 1) X.A) (hgl : Gl X "any") (hm : X.mg "any" = none) (TB : TabB X.base X.mg cc P) (hcode : X.env.code = .ref cc) (S : GScope X.N X.env.scope scope own) (hN : X.N.Nodup) (hix : ∀ i ∈ ix, i ∈ own.map (·.2))
    (hi : SI md (gx X T) Wx X tg iter fi) (hg : InGen X scope k fun Y => SG md (gx X T) Y tg ix tgt) (ht : InGen X scope k fun Y => PTs Y ifs (tT (gx X T) W0 tt)) (he : InGen X scope k fun Y => SE (gx X T) W0 Y elt fe) (hs : ∀ v, genFold iter X.env v = pure v := by intro _; rfl)
    (hst : starEach [.GeneratorExp elt [⟨tg, iter, ifs, 0⟩] scope gpos] X.env = (false, eval (.GeneratorExp elt [⟨tg, iter, ifs, 0⟩] scope gpos) X.env) :: starEach [] X.env := by rfl) :
    SE (gx X T) Wx X (.Call (.Name "any" p) [.GeneratorExp elt [⟨tg, iter, ifs, 0⟩] scope gpos] [] pos) (eGen false fi tgt tt fe (own.map (·.2))) :=
  PE.imp (pe_anyG hr hgl hm TB hcode S hN hi hg ht he hs hst) fun σ H Q h => gen_in hP hix h
/-- the tests of a clause: none, one, two -/
theorem pts_t1 {Y : Cx} {c : Expr} {tc : Ev → Wd → R Bool} (h : ST (gx X T) W0 Y c tc) : PTs Y [c] (tT (gx X T) W0 tc) := pts_one h
theorem pts_t0 {Y : Cx} : PTs Y [] (tT (gx X T) W0 oYes) := ⟨fun pins s σ H Q I h => pts_nil.run pins s σ H Q I (by
  obtain ⟨F, ad, ρ, w, a0, p⟩ := h
  exact p F H a0.hp Grow.refl)⟩
/-- the scope's check by computing -/
def gscC (N : List Str) (sc scope : Scope) (own : List (Str × Nat)) : Bool :=
  blkC N sc scope own && !scope.isCoroutine && (scope.names.all fun y => match y.2 with | .cell => false | _ => true) && (match scope.names.lookup (".0" : Str) with | some .local => true | _ => false)
theorem gsc_by {N : List Str} {sc scope : Scope} {own : List (Str × Nat)} (h : gscC N sc scope own = true) : GScope N sc scope own := by
  unfold gscC at h
  simp only [Bool.and_eq_true, List.all_eq_true] at h
  obtain ⟨⟨⟨h1, h2⟩, h3⟩, h4⟩ := h
  refine ⟨blkOk_by h1, by simpa using h2, fun y hy e => ?_, ?_⟩
  · have := h3 y hy
    rw [e] at this
    cases this
  · split at h4
    · assumption
    · cases h4
end
end DL

set_option Elab.async false
set_option linter.all false
set_option maxRecDepth 100000
set_option maxHeartbeats 2000000
namespace DL
open PySem PySem.Spec PySem.SeqAt PySem.W L2 DG PyProof.Rows
open GxR (TabB TabG Tabbed)

theorem takesN0 {X : Cx} : L2N.Takes X (fun _ _ _ _ => False) := fun _ _ x => by
  obtain ⟨_, _, _, _, _, _, _, _, _, _, _, _, _, _, _, _, z⟩ := x
  exact z.elim
/-! ### defs -/
def ArgOk (G : Gx) (F : Hp) (ad : Option Addr) (v : V) : Sl → Prop
  | .v d => Rep G.K F v d
  | .dr => ∃ a, ad = some a ∧ v = .ref a
  | .sc ns => ∃ a, v = .ref a ∧ SqL G.K F a (ns.map V.int)
  | _ => False
inductive Args (G : Gx) (F : Hp) (ad : Option Addr) : List V → List Sl → Prop
  | nil : Args G F ad [] []
  | cons {v : V} {s : Sl} {vs : List V} {ss : List Sl} : ArgOk G F ad v s → Args G F ad vs ss → Args G F ad (v :: vs) (s :: ss)
section
variable {G : Gx} {F F' H : Hp} {ad : Option Addr}
theorem ArgOk.mono (m : ∀ a o, F a = some o → F' a = some o) {v : V} {s : Sl} (h : ArgOk G F ad v s) : ArgOk G F' ad v s := by
  cases s with
  | v d => exact Rep.mono m h
  | dr => exact h
  | sc ns => let ⟨a, e, q⟩ := h; exact ⟨a, e, sqL_mono m q⟩
  | ol ds => exact h
  | od ks => exact h
theorem Args.mono (m : ∀ a o, F a = some o → F' a = some o) : ∀ {vs : List V} {ss : List Sl}, Args G F ad vs ss → Args G F' ad vs ss
  | _, _, .nil => .nil
  | _, _, .cons h t => .cons (h.mono m) (Args.mono m t)
theorem Args.length : ∀ {vs : List V} {ss : List Sl}, Args G F ad vs ss → vs.length = ss.length
  | _, _, .nil => rfl
  | _, _, .cons _ t => congrArg (· + 1) (Args.length t)
theorem Args.at : ∀ {vs : List V} {ss : List Sl} (i : Nat) {s : Sl}, Args G F ad vs ss → ss[i]? = some s → ∃ v, vs[i]? = some v ∧ ArgOk G F ad v s
  | _, _, _, _, .nil, e => by simp at e
  | _, _, 0, _, .cons h _, e => by simp at e; subst e; exact ⟨_, rfl, h⟩
  | _, _, i + 1, s, .cons _ t, e => by
    obtain ⟨v, h1, h2⟩ := Args.at i t (by simpa using e)
    exact ⟨v, by simpa using h1, h2⟩
theorem ArgOk.sl {v : V} {s : Sl} (h : ArgOk G F ad v s) : SlOk G F ad H v s ∧ s.own = false := by
  cases s with
  | v d => exact ⟨h, rfl⟩
  | dr => exact ⟨h, rfl⟩
  | sc ns => exact ⟨h, rfl⟩
  | ol ds => exact h.elim
  | od ks => exact h.elim
/-- the slots at the entry -/
def ent (n N : Nat) (ss : List Sl) : Ev := ss.map some ++ List.replicate (N - n) none
theorem env_start {N : List Str} {vs : List V} {ss : List Sl} (h : Args G F ad vs ss) : EnvOk G F ad (L2.start N vs) H (ent vs.length N.length ss) := by
  have hl := h.length
  have key : ∀ (i : Nat) s, (ent vs.length N.length ss)[i]? = some (some s) → ss[i]? = some s := fun i s e => by
    unfold ent at e
    by_cases hi : i < ss.length
    · rw [List.getElem?_append_left (by simpa using hi), List.getElem?_map] at e
      cases q : ss[i]? with
      | none => rw [q] at e; cases e
      | some t => rw [q] at e; cases e; rfl
    · rw [List.getElem?_append_right (by simpa using hi), List.getElem?_replicate] at e
      split at e <;> cases e
  refine ⟨by unfold ent L2.start; simp [hl], fun i s e => ?_, fun i j s t v ne e1 e2 o1 o2 e3 => ?_⟩
  · obtain ⟨v, h1, h2⟩ := h.at i (key i s e)
    refine ⟨v, ?_, h2.sl.1⟩
    unfold L2.start
    have hi : i < vs.length := (List.getElem?_eq_some_iff.mp h1).1
    rw [List.getElem?_append_left (by simpa using hi), List.getElem?_map, h1]
    rfl
  · obtain ⟨v, h1, h2⟩ := h.at i (key i s e1)
    rw [h2.sl (H := H).2] at o1; cases o1
end
/-- behind a call -/
def PostC (G : Gx) (Q : VK) (E : XK) (F : Hp) (ad : Option Addr) (H : Hp) : R D → Prop
  | .ok d w => ∀ v F' H', HeapOk G F' ad H' w → Grow G ad F H F' H' → Rep G.K F' v d → Q v H'
  | .exc c w => ∃ C, G.mg c = some (.ref C) ∧ ∀ F' H', HeapOk G F' ad H' w → Grow G ad F H F' H' → E (.ref C) none H'
  | .bad => False
def PostCO (G : Gx) (Q : VK) (E : XK) (F : Hp) (ad : Option Addr) (H : Hp) : R (List D) → Prop
  | .ok ds w => ∀ a vs F' H', HeapOk G F' ad H' w → Grow G ad F H F' H' → H a = none → H' a = some (.lst vs) → F' a = none → RepL G.K F' vs ds → Q (.ref a) H'
  | .exc c w => ∃ C, G.mg c = some (.ref C) ∧ ∀ F' H', HeapOk G F' ad H' w → Grow G ad F H F' H' → E (.ref C) none H'
  | .bad => False
/-- what a def promises: f on its arguments -/
def spD (G : Gx) (n : Nat) (f : List Sl → Wd → R D) : Sp := fun vs H Q E => ∃ F ad w ss, HeapOk G F ad H w ∧ Args G F ad vs ss ∧ ss.length = n ∧ PostC G Q E F ad H (f ss w)
def spO (G : Gx) (n : Nat) (f : List Sl → Wd → R (List D)) : Sp := fun vs H Q E => ∃ F ad w ss, HeapOk G F ad H w ∧ Args G F ad vs ss ∧ ss.length = n ∧ PostCO G Q E F ad H (f ss w)
def fnD (n N : Nat) (body : Sf) : List Sl → Wd → R D := fun ss w => match body (ent n N ss) w with
  | .nx _ w => .ok .none w
  | .rt d w => .ok d w
  | .exc c w => .exc c w
  | _ => .bad
def fnO (n N : Nat) (body : Sf) : List Sl → Wd → R (List D) := fun ss w => match body (ent n N ss) w with
  | .ro ds w => .ok ds w
  | .exc c w => .exc c w
  | _ => .bad
section
variable {P : Program} {w : World} {K : PySem.W.Frag} {mg : Str → Option Value} {base : Heap} {T : Addr → Prop} {k n : Nat} {x : Str}
/-- a def of the module that keeps such a promise -/
structure Kf (P : Program) (w : World) (K : PySem.W.Frag) (mg : Str → Option Value) (base : Heap) (T : Addr → Prop) (k : Nat) (x : Str) (n : Nat) (fm : List Sl → Wd → R D) : Prop where
  ex : ∃ f fd ps, FnOk P w K mg base (L2N.CX P w) k f fd ps (spD ⟨K, mg, T⟩ n fm) ∧ mg x = some (.ref f) ∧ PySem.W.keepIn K (.ref f) = true ∧ Binds K fd ps []
structure KfO (P : Program) (w : World) (K : PySem.W.Frag) (mg : Str → Option Value) (base : Heap) (T : Addr → Prop) (k : Nat) (x : Str) (n : Nat) (fm : List Sl → Wd → R (List D)) : Prop where
  ex : ∃ f fd ps, FnOk P w K mg base (L2N.CX P w) k f fd ps (spO ⟨K, mg, T⟩ n fm) ∧ mg x = some (.ref f) ∧ PySem.W.keepIn K (.ref f) = true ∧ Binds K fd ps []
/-- a def as the text has it -/
structure Df (K : PySem.W.Frag) (mg : Str → Option Value) (x : Str) (st : Stmt) (ps : List Str) (f : Addr) (fd : FuncData) : Prop where
  fn : Fun K x x st f fd
  gm : mg x = some (.ref f)
  bd : Binds K fd ps []
theorem AtS.start {G : Gx} {F H : Hp} {ad : Option Addr} {N : List Str} {vs : List V} {ss : List Sl} {wd : Wd} (h : HeapOk G F ad H wd) (a : Args G F ad vs ss) : AtS G F H F ad (L2.start N vs) H (ent vs.length N.length ss) wd :=
  ⟨h, env_start a, Grow.refl, fun i s b e o _ => by
    obtain ⟨v, h1, h2⟩ := a.at i (show ss[i]? = some s by
      unfold ent at e
      by_cases hi : i < ss.length
      · rw [List.getElem?_append_left (by simpa using hi), List.getElem?_map] at e
        cases q : ss[i]? with
        | none => rw [q] at e; cases e
        | some t => rw [q] at e; cases e; rfl
      · rw [List.getElem?_append_right (by simpa using hi), List.getElem?_replicate] at e
        split at e <;> cases e)
    rw [h2.sl (H := H).2] at o; cases o⟩
/-- a def keeps its promise by its body -/
theorem fn_d {st : Stmt} {f : Addr} {fd : FuncData} {N ps : List Str} {sf : Sf} (D0 : Df K mg x st ps f fd) (S : FnScope N ps (defScope st))
    (hb : ∀ (cdv : Value) (A : Around) (outer : List Env) (s : Shared) (H : Hp) (E : XK), fd.code = cdv → Room k (A.deeper (envOfC x (defScope st) s.heap.objs.size f cdv)) →
      SSs ⟨K, mg, T⟩ (fun cls d _ H => E cls d H) (cxOf (L2N.CX P w) P w K mg base N x (defScope st) f cdv A outer s H E) (defBody st) sf) :
    Kf P w K mg base T (k + 1) x ps.length (fnD ps.length N.length sf) := by
  refine ⟨f, fd, ps, ?_, D0.gm, D0.fn.kp, D0.bd⟩
  obtain ⟨oc, od, kV, doc, pm, an, cdv, ct, osl, rfl, lk, hcd⟩ := D0.fn.ex
  refine fn_of lk hcd S (fun vs H Q E ⟨F, ad, w, ss, h, a, e, p⟩ => a.length.trans e) fun A outer s H vs Q E hr ⟨F, ad, wd, ss, h, a, e, p⟩ => ⟨_, hb cdv A outer s H E rfl hr, F, H, F, ad, _, wd, AtS.start h a, ?_⟩
  rw [a.length, e]
  unfold fnD at p
  cases q : sf (ent ps.length N.length ss) wd with
  | nx ρ1 w1 => rw [q] at p; exact fun σ F1 H1 a1 => p _ F1 H1 a1.hp a1.gr .non
  | rt d w1 => rw [q] at p; exact p
  | ro ds w1 => rw [q] at p; exact p.elim
  | bk ρ1 w1 => rw [q] at p; exact p.elim
  | ct ρ1 w1 => rw [q] at p; exact p.elim
  | exc c w1 =>
    rw [q] at p
    obtain ⟨C, e1, z⟩ := p
    exact ⟨C, e1, fun σ F1 H1 h1 g1 => z F1 H1 h1 g1⟩
  | bad => rw [q] at p; exact p.elim
theorem fn_o {st : Stmt} {f : Addr} {fd : FuncData} {N ps : List Str} {sf : Sf} (D0 : Df K mg x st ps f fd) (S : FnScope N ps (defScope st))
    (hb : ∀ (cdv : Value) (A : Around) (outer : List Env) (s : Shared) (H : Hp) (E : XK), fd.code = cdv → Room k (A.deeper (envOfC x (defScope st) s.heap.objs.size f cdv)) →
      SSs ⟨K, mg, T⟩ (fun cls d _ H => E cls d H) (cxOf (L2N.CX P w) P w K mg base N x (defScope st) f cdv A outer s H E) (defBody st) sf) :
    KfO P w K mg base T (k + 1) x ps.length (fnO ps.length N.length sf) := by
  refine ⟨f, fd, ps, ?_, D0.gm, D0.fn.kp, D0.bd⟩
  obtain ⟨oc, od, kV, doc, pm, an, cdv, ct, osl, rfl, lk, hcd⟩ := D0.fn.ex
  refine fn_of lk hcd S (fun vs H Q E ⟨F, ad, w, ss, h, a, e, p⟩ => a.length.trans e) fun A outer s H vs Q E hr ⟨F, ad, wd, ss, h, a, e, p⟩ => ⟨_, hb cdv A outer s H E rfl hr, F, H, F, ad, _, wd, AtS.start h a, ?_⟩
  rw [a.length, e]
  unfold fnO at p
  cases q : sf (ent ps.length N.length ss) wd with
  | nx ρ1 w1 => rw [q] at p; exact p.elim
  | rt d w1 => rw [q] at p; exact p.elim
  | ro ds w1 => rw [q] at p; exact p
  | bk ρ1 w1 => rw [q] at p; exact p.elim
  | ct ρ1 w1 => rw [q] at p; exact p.elim
  | exc c w1 =>
    rw [q] at p
    obtain ⟨C, e1, z⟩ := p
    exact ⟨C, e1, fun σ F1 H1 h1 g1 => z F1 H1 h1 g1⟩
  | bad => rw [q] at p; exact p.elim
/-- a def that calls itself: at depth 0 nothing is promised -/
theorem kf_zero {st : Stmt} {ps : List Str} {f : Addr} {fd : FuncData} (D0 : Df K mg x st ps f fd) : Kf P w K mg base T k x n (fun _ _ => .bad) :=
  ⟨f, fd, ps, ⟨fun vs H Q E ⟨_, _, _, _, _, _, _, p⟩ => p.elim, fun A outer s H args us vs Q E _ _ _ _ ⟨_, _, _, _, _, _, _, p⟩ => p.elim⟩, D0.gm, D0.fn.kp, D0.bd⟩
theorem Kf.up {j : Nat} {fm : List Sl → Wd → R D} (h : Kf P w K mg base T j x n fm) (hj : j ≤ k) : Kf P w K mg base T k x n fm :=
  let ⟨f, fd, ps, h1, h2⟩ := h.ex; ⟨f, fd, ps, h1.mono hj, h2⟩
theorem KfO.up {j : Nat} {fm : List Sl → Wd → R (List D)} (h : KfO P w K mg base T j x n fm) (hj : j ≤ k) : KfO P w K mg base T k x n fm :=
  let ⟨f, fd, ps, h1, h2⟩ := h.ex; ⟨f, fd, ps, h1.mono hj, h2⟩
end

/-! ### calls -/
def tAr (G : Gx) (Wx : WX) (f : Ev → Wd → R (List Sl)) : TA := fun σ H Q => ∃ F ad ρ w, At G F ad σ H ρ w ∧ Post G Wx σ F ad H (fun ss _ F' H' => ∀ vs, Args G F' ad vs ss → Q vs H') (f ρ w)
abbrev SA (G : Gx) (Wx : WX) (X : Cx) (es : List Expr) (f : Ev → Wd → R (List Sl)) : Prop := PA X es (tAr G Wx f)
def aNil : Ev → Wd → R (List Sl) := fun _ w => .ok [] w
def aCons (fa : Ef) (fs : Ev → Wd → R (List Sl)) : Ev → Wd → R (List Sl) := fun ρ w => (fa ρ w).bind fun d w1 => (fs ρ w1).bind fun ss w2 => .ok (.v d :: ss) w2
/-- a slot that is no data is handed on: the draws, the script -/
def aSl (i : Nat) (fs : Ev → Wd → R (List Sl)) : Ev → Wd → R (List Sl) := fun ρ w => match ρ[i]? with
  | some (some .dr) => (fs ρ w).bind fun ss w2 => .ok (.dr :: ss) w2
  | some (some (.sc ns)) => (fs ρ w).bind fun ss w2 => .ok (.sc ns :: ss) w2
  | _ => .bad
def eCallF (n : Nat) (fm : List Sl → Wd → R D) (fs : Ev → Wd → R (List Sl)) : Ef := fun ρ w => (fs ρ w).bind fun ss w1 => if ss.length = n then fm ss w1 else .bad
def oCallF (n : Nat) (fm : List Sl → Wd → R (List D)) (fs : Ev → Wd → R (List Sl)) : Ev → Wd → R (List D) := fun ρ w => (fs ρ w).bind fun ss w1 => if ss.length = n then fm ss w1 else .bad
section
variable {X : Cx} {T : Addr → Prop} {Wx : WX} {e : Expr} {es : List Expr} {fa : Ef} {fs : Ev → Wd → R (List Sl)} {k n : Nat} {x : Str} {p pos : Pos}
theorem sa_nil : SA (gx X T) Wx X [] aNil := PA.imp pa_nil fun σ H Q ⟨F, ad, ρ, w, a0, p⟩ => p F H a0.hp Grow.refl [] .nil
theorem sa_cons (ha : SE (gx X T) Wx X e fa) (hs : SA (gx X T) Wx X es fs) (hst : starEach (e :: es) X.env = (false, eval e X.env) :: starEach es X.env := by rfl) : SA (gx X T) Wx X (e :: es) (aCons fa fs) :=
  PA.imp (pa_cons ha hs hst) fun σ H Q ⟨F, ad, ρ, w, a0, p⟩ => unE_in a0 p fun F1 H1 w1 x dx a1 g1 rx p1 => ⟨F1, ad, ρ, w1, a1, (p1.bind a1.hp).imp fun ss w2 F2 H2 h2 g2 p2 vs r => p2 F2 H2 h2 Grow.refl (x :: vs) (.cons (Rep.mono g2.mono rx) r)⟩
theorem sa_sl {i : Nat} (hv : PE X e (tVar i)) (hs : SA (gx X T) Wx X es fs) (hst : starEach (e :: es) X.env = (false, eval e X.env) :: starEach es X.env := by rfl) : SA (gx X T) Wx X (e :: es) (aSl i fs) :=
  PA.imp (pa_cons hv hs hst) fun σ H Q ⟨F, ad, ρ, w, a0, p⟩ => by
    unfold aSl at p
    split at p
    · rename_i e0
      obtain ⟨v, h1, h2⟩ := a0.en.sl i _ e0
      exact ⟨v, h1, F, ad, ρ, w, a0, (p.bind a0.hp).imp fun ss w2 F2 H2 h3 g2 p2 vs r => p2 F2 H2 h3 Grow.refl (v :: vs) (.cons h2 r)⟩
    · rename_i ns e0
      obtain ⟨v, h1, a, rfl, h2⟩ := a0.en.sl i _ e0
      exact ⟨.ref a, h1, F, ad, ρ, w, a0, (p.bind a0.hp).imp fun ss w2 F2 H2 h3 g2 p2 vs r => p2 F2 H2 h3 Grow.refl (.ref a :: vs) (.cons ⟨a, rfl, sqL_mono g2.mono h2⟩ r)⟩
    · exact p.elim
theorem se_callD {fm : List Sl → Wd → R D} (c : Kf X.prog X.w X.K X.mg X.base T k x n fm) (hr : Room k X.A) (tk : L2N.Takes X Wx) (ha : SA (gx X T) Wx X (e :: es) fs) (hg : Gl X x := by rfl) (hdb : (x == ("__debug__" : Str)) = false := by decide)
    (he : starEach (e :: es) X.env = (false, eval e X.env) :: starEach es X.env := by rfl) (hpl : (backTo pos (starEach es X.env)).any (·.1) = false := by rfl) : SE (gx X T) Wx X (.Call (.Name x p) (e :: es) [] pos) (eCallF n fm fs) := by
  obtain ⟨f, fd, ps, h1, h2, h3, h4⟩ := c.ex
  refine PE.imp (pe_callS h1 hr hg h2 h3 h4 (fun σ => L2N.passAt tk σ) ha hdb he hpl) fun σ H Q ⟨F, ad, ρ, w, a0, p⟩ => ⟨F, ad, ρ, w, a0, (p.bind a0.hp).imp fun ss w1 F1 H1 hh g1 p1 vs ra => ?_⟩
  by_cases hl : ss.length = n
  · rw [if_pos hl] at p1
    refine ⟨F1, ad, w1, ss, hh, ra, hl, ?_⟩
    cases q : fm ss w1 with
    | ok d w2 => rw [q] at p1; exact fun v F' H' h' g' r' => p1 F' H' h' g' v r'
    | exc c w2 => rw [q] at p1; exact p1
    | bad => rw [q] at p1; exact p1.elim
  · rw [if_neg hl] at p1
    exact p1.elim
theorem so_callD {fm : List Sl → Wd → R (List D)} (c : KfO X.prog X.w X.K X.mg X.base T k x n fm) (hr : Room k X.A) (tk : L2N.Takes X Wx) (ha : SA (gx X T) Wx X (e :: es) fs) (hg : Gl X x := by rfl) (hdb : (x == ("__debug__" : Str)) = false := by decide)
    (he : starEach (e :: es) X.env = (false, eval e X.env) :: starEach es X.env := by rfl) (hpl : (backTo pos (starEach es X.env)).any (·.1) = false := by rfl) : SO (gx X T) Wx X (.Call (.Name x p) (e :: es) [] pos) (oCallF n fm fs) := by
  obtain ⟨f, fd, ps, h1, h2, h3, h4⟩ := c.ex
  refine PE.imp (pe_callS h1 hr hg h2 h3 h4 (fun σ => L2N.passAt tk σ) ha hdb he hpl) fun σ H Q ⟨F, ad, ρ, w, a0, p⟩ => ⟨F, ad, ρ, w, a0, (p.bind a0.hp).imp fun ss w1 F1 H1 hh g1 p1 vs ra => ?_⟩
  by_cases hl : ss.length = n
  · rw [if_pos hl] at p1
    refine ⟨F1, ad, w1, ss, hh, ra, hl, ?_⟩
    cases q : fm ss w1 with
    | ok ds w2 =>
      rw [q] at p1
      exact fun a us F' H' h' g' n1 n2 n3 r' => p1 F' H' h' g' a us (none0 hh g1 n1) n2 n3 r'
    | exc c w2 => rw [q] at p1; exact p1
    | bad => rw [q] at p1; exact p1.elim
  · rw [if_neg hl] at p1
    exact p1.elim
end
end DL

set_option Elab.async false
set_option linter.all false
set_option maxRecDepth 100000
set_option maxHeartbeats 2000000
namespace DL
open PySem PySem.Spec PySem.SeqAt PySem.W L2 DG PyProof.Rows
open GxR (TabB TabG Tabbed)

/-! ### dicts whose keys are ints and texts -/
def dkey : D → Option Key
  | .int i => some (.inl i)
  | .str x => some (.inr x)
  | _ => none
def isKey : Key → D → Bool
  | .inl i, .int j => decide (j = i)
  | .inr x, .str y => decide (y = x)
  | _, _ => false
theorem isKey_key (k j : Key) : isKey k (keyD j) = decide (j = k) := by
  cases k with
  | inl a =>
    cases j with
    | inl b => show decide (b = a) = _; by_cases e : b = a <;> simp [e]
    | inr b => show false = _; simp
  | inr a =>
    cases j with
    | inl b => show false = _; simp
    | inr b => show decide (b = a) = _; by_cases e : b = a <;> simp [e]
def valD (kds : List (D × D)) (k : Key) : Option D := (kds.find? fun p => isKey k p.1).map (·.2)
def putD (kds : List (D × D)) (k : Key) (d : D) : List (D × D) := if (kds.any fun p => isKey k p.1) = true then kds.map (fun p => if isKey k p.1 = true then (p.1, d) else p) else kds ++ [(keyD k, d)]
section
variable {K : PySem.W.Frag} {F : Hp}
theorem DKp.val (k : Key) : ∀ {kvs : List (Key × V)} {kds : List (D × D)}, DKp K F kvs kds → (∀ d, valD kds k = some d → ∃ v, valV kvs k = some v ∧ Rep K F v d) ∧ (valD kds k = none → valV kvs k = none)
  | _, _, .nil => ⟨(fun d e => by cases e), fun _ => rfl⟩
  | _, _, .cons (k := j) (v := v) (d := d0) (ks := ks) (kds := kds) r t => by
    obtain ⟨h1, h2⟩ := DKp.val k t
    have e0 : isKey k (keyD j) = decide (j = k) := isKey_key k j
    by_cases e : j = k
    · refine ⟨fun d q => ⟨v, valV_pos e, ?_⟩, fun q => ?_⟩
      · have e1 : isKey k (keyD j) = true := by rw [e0]; exact decide_eq_true e
        have : d0 = d := by simpa [valD, List.find?_cons, e1] using q
        rw [← this]; exact r
      · have e1 : isKey k (keyD j) = true := by rw [e0]; exact decide_eq_true e
        simp [valD, List.find?_cons, e1] at q
    · have a : valD ((keyD j, d0) :: kds) k = valD kds k := by simp [valD, List.find?_cons, e0, e]
      have b : valV ((j, v) :: ks) k = valV ks k := valV_neg e
      rw [a, b]
      exact ⟨h1, h2⟩
theorem DKp.any (k : Key) : ∀ {kvs : List (Key × V)} {kds : List (D × D)}, DKp K F kvs kds → (kds.any fun p => isKey k p.1) = (kvs.any fun p => decide (p.1 = k))
  | _, _, .nil => rfl
  | _, _, .cons r t => by rw [List.any_cons, List.any_cons, isKey_key, DKp.any k t]
theorem DKp.map (k : Key) {v : V} {d : D} (r : Rep K F v d) : ∀ {kvs : List (Key × V)} {kds : List (D × D)}, DKp K F kvs kds → DKp K F (kvs.map fun kv => if kv.1 = k then (kv.1, v) else kv) (kds.map fun p => if isKey k p.1 = true then (p.1, d) else p)
  | _, _, .nil => .nil
  | _, _, .cons (k := j) r0 t => by
    rw [List.map_cons, List.map_cons]
    have e0 : isKey k (keyD j) = decide (j = k) := isKey_key k j
    by_cases e : j = k
    · have e1 : isKey k (keyD j) = true := by rw [e0]; exact decide_eq_true e
      rw [if_pos (show (j, _).1 = k from e), if_pos (show isKey k (keyD j, _).1 = true from e1)]
      exact .cons r (DKp.map k r t)
    · have e1 : ¬ isKey k (keyD j) = true := by rw [e0, decide_eq_false e]; exact Bool.false_ne_true
      rw [if_neg (show ¬ (j, _).1 = k from e), if_neg (show ¬ isKey k (keyD j, _).1 = true from e1)]
      exact .cons r0 (DKp.map k r t)
theorem DKp.snoc (k : Key) {v : V} {d : D} (r : Rep K F v d) : ∀ {kvs : List (Key × V)} {kds : List (D × D)}, DKp K F kvs kds → DKp K F (kvs ++ [(k, v)]) (kds ++ [(keyD k, d)])
  | _, _, .nil => .cons r .nil
  | _, _, .cons r0 t => .cons r0 (DKp.snoc k r t)
theorem DKp.put (k : Key) {v : V} {d : D} (r : Rep K F v d) {kvs : List (Key × V)} {kds : List (D × D)} (h : DKp K F kvs kds) : DKp K F (putK kvs k v) (putD kds k d) := by
  unfold putK putD
  rw [h.any k]
  split
  · exact h.map k r
  · exact h.snoc k r
theorem key_rep {v : V} {d : D} {k : Key} (r : Rep K F v d) (e : dkey d = some k) : v = kV k := by
  cases r <;> first | (cases e; rfl) | cases e
end
section
variable {X : Cx} {T : Addr → Prop} {Wx : WX} {a b c o e : Expr} {fa fb fc : Ef} {pos apos cpos p1 : Pos} {x : Str}
/-- d[k], k there -/
def dDix : D → D → Option D
  | .dict kds, k => (dkey k).bind fun k => valD kds k
  | _, _ => none
theorem dd_get {F H : Hp} {ad : Option Addr} {w : Wd} {v y : V} {kds : List (D × D)} {dk : D} {k : Key} (hp : HeapOk (gx X T) F ad H w) (rx : RepB (gx X T) F ad H v (.dict kds)) (ry : RepB (gx X T) F ad H y dk) (ek : dkey dk = some k) :
    ∃ a r, v = .ref a ∧ DGet H a y r ∧ (∀ d, valD kds k = some d → ∃ u, r = some u ∧ Rep X.K F u d) ∧ (valD kds k = none → r = none) := by
  obtain ⟨a, kvs, rfl, hr, hk⟩ := rx.dict hp
  have hy : y = kV k := by
    rcases ry with ry | ⟨ds, rfl, _⟩ | ⟨ds, rfl, _⟩
    · exact key_rep ry ek
    · cases ek
    · cases ek
  obtain ⟨h1, h2⟩ := hk.val k
  exact ⟨a, valV kvs k, rfl, .inl ⟨kvs, k, hr, hy, rfl⟩, h1, h2⟩
theorem se_dix (hu : X.A.units + 100 < cLine) (ha : SB (gx X T) Wx X a fa) (hb : SB (gx X T) Wx X b fb) (hs : NoSl b := by exact fun _ _ => rfl) : SE (gx X T) Wx X (.Subscript a b pos) (eBin dDix fa fb) :=
  PE.imp (pe_dget (by omega) ha hb hs) fun σ H Q ⟨F, ad, ρ, w, a0, p⟩ => bin_in a0 p fun F1 H1 w1 x y dx dy a1 _ rx ry p1 => by
    cases e : dDix dx dy with
    | none => rw [e] at p1; exact p1.elim
    | some z =>
      rw [e] at p1
      cases dx with
      | dict kds =>
        cases ek : dkey dy with
        | none => simp [dDix, ek] at e
        | some k =>
          have e2 : valD kds k = some z := by simpa [dDix, ek] using e
          obtain ⟨a, r, rfl, g, h1, h2⟩ := dd_get a1.hp rx ry ek
          obtain ⟨u, rfl, ru⟩ := h1 z e2
          exact ⟨a, u, rfl, g, p1 F1 H1 a1.hp Grow.refl u ru⟩
      | _ => cases e
/-- k in c, c of any kind -/
def dIn2 (neg : Bool) : D → D → Option D
  | k, .dict kds => (dkey k).map fun k => .bool (xor neg (valD kds k).isSome)
  | k, .list ds => if neg then dNin k (.list ds) else dIn k (.list ds)
  | k, .tuple ds => if neg then dNin k (.tuple ds) else dIn k (.tuple ds)
  | _, _ => none
theorem od_in2 (hu : X.A.units + 100 < cLine) : OpD X T (compareOp .In) (dIn2 false) := by
  intro pins s σ H x y v u Q F ad w dx dy d I rx ry hp bx bY e q
  cases dy with
  | dict kds =>
    cases ek : dkey dx with
    | none => simp [dIn2, ek] at e
    | some k =>
      obtain rfl : d = .bool (valD kds k).isSome := by simpa [dIn2, ek] using e.symm
      obtain ⟨a, r, rfl, g, h1, h2⟩ := dd_get hp bY bx ek
      obtain rfl : u = Value.ref a := ry
      refine d_in (by omega) I g rx fun s3 I3 => ⟨.bl r.isSome, H, I3, rfl, ?_⟩
      have e : r.isSome = (valD kds k).isSome := by
        cases q : valD kds k with
        | none => rw [h2 q] <;> rfl
        | some d => obtain ⟨u, e, _⟩ := h1 d q; rw [e] <;> rfl
      rw [e]
      exact q _ _ _ hp Grow.refl (.bl _)
  | list ds => exact od_in hu pins s σ H x y v u Q F ad w dx _ d I rx ry hp bx bY e q
  | tuple ds => exact od_in hu pins s σ H x y v u Q F ad w dx _ d I rx ry hp bx bY e q
  | _ => cases dx <;> cases e
theorem od_nin2 (hu : X.A.units + 100 < cLine) : OpD X T (compareOp .NotIn) (dIn2 true) := by
  intro pins s σ H x y v u Q F ad w dx dy d I rx ry hp bx bY e q
  cases dy with
  | dict kds =>
    cases ek : dkey dx with
    | none => simp [dIn2, ek] at e
    | some k =>
      obtain rfl : d = .bool (!(valD kds k).isSome) := by simpa [dIn2, ek] using e.symm
      obtain ⟨a, r, rfl, g, h1, h2⟩ := dd_get hp bY bx ek
      obtain rfl : u = Value.ref a := ry
      refine d_notIn (by omega) I g rx fun s3 I3 => ⟨.bl (!r.isSome), H, I3, rfl, ?_⟩
      have e : r.isSome = (valD kds k).isSome := by
        cases q : valD kds k with
        | none => rw [h2 q] <;> rfl
        | some d => obtain ⟨u, e, _⟩ := h1 d q; rw [e] <;> rfl
      rw [e]
      exact q _ _ _ hp Grow.refl (.bl _)
  | list ds => exact od_nin hu pins s σ H x y v u Q F ad w dx _ d I rx ry hp bx bY e q
  | tuple ds => exact od_nin hu pins s σ H x y v u Q F ad w dx _ d I rx ry hp bx bY e q
  | _ => cases dx <;> cases e
/-- x = {} -/
def sDnew (i : Nat) : Sf := fun ρ w => if i < ρ.length then .nx (ρ.set i (some (.od []))) w else .bad
theorem dnew_in {i : Nat} {σ : L2.St} {H : Hp} {Dn : Ends} (h : tS (gx X T) Wx (sDnew i) Dn σ H) : tAsg tDNewK (gName i) Dn σ H := by
  obtain ⟨F0, H0, F, ad, ρ, w, a0, p⟩ := h
  unfold sDnew at p
  split at p
  · rename_i hi
    intro d hd
    have nT : ¬ T d := fun z => a0.hp.tN d z hd
    have nD : ad ≠ some d := fun z => a0.hp.dN d z hd
    have nF : F d = none := by
      cases q : F d with
      | none => rfl
      | some o => have := a0.hp.sub d o q; rw [hd] at this; cases this
    obtain ⟨h1, g1⟩ := a0.hp.new (o := .dK []) hd
    have a1 := a0.grow h1 g1
    refine p _ F _ (a1.setOwn hi rfl ⟨d, .dK [], rfl, nF, nD, upd_same, [], rfl, .nil⟩ (none0 a0.hp a0.gr hd) fun j t e o z => ?_)
    obtain ⟨v, h3, h4⟩ := a0.en.sl j t e
    rw [z] at h3
    cases h3
    cases t with
    | v d => cases o
    | dr => cases o
    | sc ns => cases o
    | ol ds =>
      obtain ⟨b, vs, z, _, _, h5, _⟩ := h4
      cases z
      rw [hd] at h5; cases h5
    | od kvs =>
      obtain ⟨b, o, z, _, _, h5, _⟩ := h4
      cases z
      rw [hd] at h5; cases h5
  · exact p.elim
theorem ss_dnew {i : Nat} {pos' : Pos} (hN : X.N.Nodup) (hi : X.N[i]? = some x) (hx : Loc X.env.scope x) (hs : swapsWith (.Dict [] [] p1) (some (.Name x pos')) pos.line X.env = pure false := by rfl)
    (hf : X.fn x = true ∨ X.env.scope.names.lookup x = some .local := by first | exact .inl rfl | exact .inr rfl | assumption) : SS (gx X T) Wx X (.Assign [.Name x pos'] (.Dict [] [] p1) pos) (sDnew i) :=
  PS.imp (ps_set hN hi hx pe_dnewK hs hf) fun Dn σ H h => dnew_in h
/-- x[k] = e -/
def sDput (i : Nat) (fk fv : Ef) : Sf := fun ρ w => bindS (fv ρ w) fun d w1 => match ρ[i]? with
  | some (some (.od kds)) => bindS (fk ρ w1) fun dk w2 => match dkey dk with
    | some k => if kds.length < sizeLine then .nx (ρ.set i (some (.od (putD kds k d)))) w2 else .bad
    | none => .bad
  | _ => .bad
theorem ss_dput {i : Nat} {pos' : Pos} (hu : X.A.units + 100 < cLine) (hv : PE X (.Name x p1) (tVar i)) (hk : SE (gx X T) Wx X b fb) (he : SE (gx X T) Wx X e fa) (hs : swapsWith e (some (.Subscript (.Name x p1) b pos')) pos.line X.env = pure false := by rfl) :
    SS (gx X T) Wx X (.Assign [.Subscript (.Name x p1) b pos'] e pos) (sDput i fb fa) :=
  PS.imp (ps_dput (by omega) hv hk he hs) fun Dn σ H ⟨F0, H0, F, ad, ρ, w, a0, p⟩ => exprD_in a0 p fun F1 H1 w1 y dy a1 r p1 => by
    split at p1
    case h_2 => exact p1.elim
    rename_i kds e
    obtain ⟨v, h1, a, o, rfl, h3, h4, h5, kvs, rfl, h6⟩ := a1.en.sl i _ e
    refine ⟨_, h1, F1, ad, ρ, w1, a1.at, (expr_post a1 p1).imp fun dz w2 F2 H2 _ g2 qq z r2 => ?_⟩
    obtain ⟨a2, p2⟩ := qq
    split at p2
    case h_2 => exact p2.elim
    rename_i k ek
    split at p2
    case isFalse => exact p2.elim
    rename_i hl
    obtain ⟨v2, g1, a', o', z', g3, g4, g5, kvs', rfl, g6⟩ := a2.en.sl i _ e
    rw [h1] at g1
    cases g1
    cases z'
    have rd : Rep X.K F2 y dy := Rep.mono g2.mono r
    refine ⟨a, _, rfl, .inl ⟨kvs', k, g5, key_rep r2 ek, by rw [g6.length]; exact hl, rfl⟩, ?_⟩
    exact p2 σ F2 _ (a2.put e rfl h1 (notT a2.hp g5 fun ps z => by cases z) g3 g4 rfl ⟨a, _, rfl, g3, g4, upd_same, _, rfl, g6.put k rd⟩)
end
end DL

set_option Elab.async false
set_option linter.all false
set_option maxRecDepth 100000
set_option maxHeartbeats 2000000
/-! enumerate over a tuple; what the kit has for a list -/
namespace DG
open PySem PySem.Spec PyProof.Rows L2
open Sem (wp)
set_option maxHeartbeats 1000000 in
theorem meets_enum1 {v : Value} {o : Obj} {H : Heap → Prop} (B : Begins v o H) :
    Meets (Builtin.«enumerate.__new__» ⟨[.type "enumerate", v], []⟩) (fun _ R s => H s.heap ∧
      R (.ok (.ret (.ref (s.heap.push o).objs.size))) { s with heap := (s.heap.push o).push { cls := .type "enumerate", data := .fields #[.none, .bool false, .ref s.heap.objs.size, rawInt 0, .none, .none] } }) :=
  .of_wp fun prog w A R s h => by
    obtain ⟨hp, g, d, tk, os⟩ := s; obtain ⟨h1, h⟩ := h
    have hsub := sub_enumerate
    have q1 : ∀ {A' : Around} {E : Value → Shared → Prop} {Q : Value → Shared → Prop}, Q (.ref hp.objs.size) ⟨hp.push o, g, d, tk, os⟩ → wpAny (model prog w) A' (pyIter v) Q E ⟨hp, g, d, tk, os⟩ :=
      fun q => B.iter prog w _ _ ⟨hp, g, d, tk, os⟩ _ h1 q
    wp_walk using q1
    refine wpAny_stack_any fun st => wpAny_pure ?_
    split
    · rename_i c _ _ _ _ _
      cases (c == Value.type "enumerate")
      · wp_walk using q1
        exact ⟨_, rfl, h⟩
      · wp_walk using q1
        exact ⟨_, rfl, h⟩
    · wp_walk using q1
      exact ⟨_, rfl, h⟩
section
variable {prog : Program} {w : World} {A : Around} {E : Value → Shared → Prop} {s : Shared}
theorem call_enum1 {v : Value} {o : Obj} {H : Heap → Prop} {Q : Value → Shared → Prop} (B : Begins v o H) (h1 : H s.heap)
    (h : ∀ h', IsEnum h' (s.heap.objs.size + 1) s.heap.objs.size 0 .none → h'.get? s.heap.objs.size = some o → h'.objs.size = s.heap.objs.size + 2 →
      (∀ b o, s.heap.get? b = some o → h'.get? b = some o) → Q (.ref (s.heap.objs.size + 1)) { s with heap := h' }) :
    wpAny (model prog w) A (call (.type "enumerate") [v]) Q E s := by
  refine callType_new PySem.F.called_enumerate (by decide) (PySem.F.typeCall_enumerate_1 _) (PySem.F.newCall_enumerate_1 _) (fun obj => PySem.F.args_object_init_2 obj _) PySem.F.entry_enumerate_new
    (meets_enum1 B) ⟨h1, ?_⟩
  have hz : (s.heap.push o).objs.size = s.heap.objs.size + 1 := Heap.size_push ..
  show _ ∧ _
  rw [hz]
  have he : IsEnum ((s.heap.push o).push { cls := .type "enumerate", data := .fields #[.none, .bool false, .ref s.heap.objs.size, rawInt 0, .none, .none] }) (s.heap.objs.size + 1) s.heap.objs.size 0 .none := by
    have := Heap.get?_push_size (s.heap.push o) (o := { cls := .type "enumerate", data := .fields #[.none, .bool false, .ref s.heap.objs.size, rawInt 0, .none, .none] }) rfl
    rw [hz] at this; exact this
  refine ⟨⟨_, he, rfl⟩, h _ he (Heap.get?_push_of_some _ (Heap.get?_push_size _ B.free)) (by rw [Heap.size_push, hz]) fun b o x => Heap.get?_push_of_some _ (Heap.get?_push_of_some _ x)⟩
end
/-- the tuple at a, each item in a new pair -/
def ItEt (K : PySem.W.Frag) (a : Addr) : It :=
  ⟨fun i H => ∃ (xs : List V) (x : V), SqT K H a xs ∧ xs[i]? = some x, fun i H v H' => ∃ T x, v = .ref T ∧ H T = none ∧ H' = upd H T (.tup [.int (i : Nat), x]) ∧ ∀ xs, SqT K H a xs → xs[i]? = some x, fun i H => ∃ xs : List V, SqT K H a xs ∧ xs.length ≤ i⟩
theorem turn_enumT {P : Program} {w : World} {K : PySem.W.Frag} {elts : List Expr} {kk : Nat} {tpos : Pos} (a e it : Addr) :
    Turn P w K (.Tuple elts kk tpos) (ItEt K a) [e, it] e (fun i h => (∃ old, IsEnum h e it ((i : Nat) : Int) old) ∧ h.IsTupleIter it a i ∧ e ≠ it ∧ a ≠ it ∧ a ≠ e) where
  mem := by simp
  obj := fun i h st b hb => by
    obtain ⟨⟨old, he⟩, ⟨o, ho, hc, hd⟩, _⟩ := st
    have e' : b = e ∨ b = it := by simpa using hb
    rcases e' with z | z
    · rw [z]; exact ⟨_, he, fun v q => nomatch q⟩
    · rw [z]; exact ⟨o, ho, fun v q => by rw [hd] at q; cases q⟩
  keep := fun i h h' st k => let ⟨⟨old, he⟩, hi, hne, h1, h2⟩ := st; ⟨⟨old, k e (by simp) _ he⟩, hi.at fun o q => k it (by simp) o q, hne, h1, h2⟩
  item := by
    intro X hP hw hK hc i pins s σ H E I hf st hg
    subst hP hw hK
    obtain ⟨⟨old, he⟩, hit, hne, hai, hae⟩ := st
    obtain ⟨xs, x, hq, hx⟩ := hg
    obtain ⟨its, rv, p, hz⟩ := I.tuple hq
    obtain ⟨u, hu, ru⟩ := rv.get hx
    have hel : e < s.heap.objs.size := Heap.lt_size he
    have hil : it < s.heap.objs.size := by obtain ⟨_, q, _⟩ := hit; exact Heap.lt_size q
    have p' : s.heap.IsTuple a its.toArray := p
    have hlt : i < its.toArray.size := by
      have := (List.getElem?_eq_some_iff.mp hu).1
      simpa using this
    refine wpAny_pyNext_enum_itemD (Draws.tuple (A := X.A.in1) (I.ok.hd hc) it a hai its.toArray) he ⟨hit, p'⟩ hlt hne (by simp [hne, Ne.symm hae]) fun v h' tk hv ho hst' hT hsz hk => ?_
    have ev : v = u := by
      have hv : its.toArray[i]? = some v := hv
      rw [show its.toArray[i]? = some u by simpa using hu] at hv
      exact (Option.some.inj hv).symm
    subst ev
    refine ⟨_, rfl, wpAny_letOwnedTupleGo_enum (s := { s with heap := h', toks := tk + 1 }) ho fun h'' he' sb => ?_⟩
    have hT2 : h''.get? s.heap.objs.size = some { cls := .type "tuple", data := .seq #[.int i tk, v] } := (sb.2 _ (Nat.ne_of_gt hel)).trans hT
    have new : ObjOk X.prog X.w (upd H s.heap.objs.size (.tup [.int (i : Nat), x])) h'' s.heap.objs.size (.tup [.int (i : Nat), x]) :=
      ⟨by show 2 ≤ sizeLine; decide, [.int i tk, v], .cons ⟨_, rfl⟩ (.cons ru .nil), ⟨_, hT2, rfl, _, rfl⟩⟩
    have I1 : Inv X pins σ (upd H s.heap.objs.size (.tup [.int (i : Nat), x])) { s with heap := h'', toks := tk + 1 } :=
      I.turnedNew (ch := [e, it]) (fun b ob hb q => (sb.2 b (fun z => hb (by simp [z]))).trans (hk b ob (fun z => hb (by simp [z])) (fun z => hb (by simp [z])) q)) hf (Nat.le_refl _) new
    refine ⟨.ref s.heap.objs.size, _, I1, rfl, ⟨_, x, rfl, I.hok.fresh (Nat.le_refl _), rfl, fun ys hy => by rw [I.tuple_inj hy hq]; exact hx⟩, ⟨⟨v, ?_⟩, hst'.1.at fun o q => (sb.2 it (Ne.symm hne)).trans q, hne, hai, hae⟩, fun b hb => ?_⟩
    · have e1 : ((i + 1 : Nat) : Int) = (i : Int) + 1 := by omega
      rw [e1]; exact he'
    · have hb' : b < s.heap.objs.size := by
        have e' : b = e ∨ b = it := by simpa using hb
        rcases e' with z | z
        · rw [z]; exact hel
        · rw [z]; exact hil
      rw [upd_ne (Nat.ne_of_lt hb')]
      exact (hf b hb).1
  done := by
    intro X hP hw hK hc i pins s σ H E I hf st hg
    subst hP hw hK
    obtain ⟨⟨old, he⟩, hit, hne, hai, hae⟩ := st
    obtain ⟨xs, hq, hx⟩ := hg
    obtain ⟨its, rv, p, hz⟩ := I.tuple hq
    obtain ⟨f0, f1, f2, f3, f4, f5⟩ := hf it (by simp)
    have p' : s.heap.IsTuple a its.toArray := p
    have hl := rv.length
    have hT : s.TypeIs (.ref e) "enumerate" := ⟨_, he, rfl⟩
    unfold pyNext
    refine wpAny_bind (wpAny_attempt (wpAny_callSpecial?_slot (name := Str.ofString "__next__") hT PySem.F.slot_enumerate_next
      (wpAny_call_entry PySem.F.slot_enumerate_next hT PySem.F.entry_enumerate_next ?_ (PySem.F.args_enumerate_next_1 _))))
    show wpAny _ _ (field (.ref e) 2 >>= _) _ _ _
    refine wpAny_bind (wpAny_field he rfl (x := .ref it) rfl ?_)
    refine wpAny_bind (wpAny_nextOf_tuple_end (I.ok.hd hc) hit p' (by simp; omega) fun h' x he' hx' => ?_)
    obtain ⟨o, ho, hc'⟩ := hx'
    refine wpAny_bind (wpAny_isInstance (T := "StopIteration") (b := true) ⟨o, ho, hc'⟩ isSubtype_stop ?_)
    exact wpAny_pure ⟨rfl, I.turned (t' := s.toks) (fun b o hb q => he' b o hb q) f0 f1 f3 f4 f5⟩
  self := fun A i s Q E st h => let ⟨⟨_, he⟩, _⟩ := st; wpAny_pyIter_enum he h
/-- enumerate(x), x a list or a tuple -/
def iEnumA (K : PySem.W.Frag) (te : TE) : TI := fun σ H R => te σ H fun v H1 => ∃ a, v = .ref a ∧ ((∃ xs, SqL K H1 a xs ∧ R (Ite K a) H1) ∨ ∃ xs, SqT K H1 a xs ∧ R (ItEt K a) H1)
theorem pi_enumA {X : Cx} {e : Expr} {te : TE} {p pos tpos : Pos} {elts : List Expr} {kk : Nat} (hg : Gl X "enumerate") (hm : X.mg "enumerate" = none) (he : PE X e te) (hs : starEach [e] X.env = (false, eval e X.env) :: starEach [] X.env := by rfl) :
    PI X (.Tuple elts kk tpos) (.Call (.Name "enumerate" p) [e] [] pos) (iEnumA X.K te) := by
  refine ⟨fun pins s σ H R I h => ?_⟩
  refine Call_ (ld_blt I hg hm boot_enumerate (PyProof.Rows.callWith_type1 (args_cons (thn (he.run pins s σ H _ I h) fun u s1 ⟨v, H1, I1, r1, q1⟩ => args_nil ?_) hs) hs rfl))
  obtain ⟨a, ev, q⟩ := q1
  subst ev
  obtain rfl : u = Value.ref a := r1
  have fin : ∀ {h' : Heap} {b : Addr}, (b = s1.heap.objs.size + 1 ∨ b = s1.heap.objs.size) → FpOk X pins H1 b := fun {h' b} e' => by
    have hle : s1.heap.objs.size ≤ b := by
      rcases e' with z | z
      · rw [z]; exact Nat.le_add_right _ _
      · rw [z]; exact Nat.le_refl _
    exact I1.fpOk hle (I1.hok.fresh hle)
  rcases q with ⟨xs, hq, q⟩ | ⟨xs, hq, q⟩
  · obtain ⟨its, rv, p', hz⟩ := I1.list hq
    refine call_enumerate_list p'.isList fun h' he hit hsz hk => wpAny_pyIter_enum he ?_
    have I2 : Inv X pins σ H1 { s1 with heap := h' } := I1.kept (t' := s1.toks) hk
    exact ⟨s1.heap.objs.size + 1, [s1.heap.objs.size + 1, s1.heap.objs.size], _, _, H1, rfl, I2, turn_enum a (s1.heap.objs.size + 1) s1.heap.objs.size, ⟨⟨.none, he⟩, hit, Nat.succ_ne_self _⟩, fun b hb => fin (h' := h') (by simpa using hb), q⟩
  · obtain ⟨its, rv, p', hz⟩ := I1.tuple hq
    have p2 : s1.heap.IsTuple a its.toArray := p'
    have hal : a < s1.heap.objs.size := by obtain ⟨o, e, _⟩ := p2; exact Heap.lt_size e
    refine call_enum1 (begins_tuple a its.toArray) p2 fun h' he hit hsz hk => wpAny_pyIter_enum he ?_
    have I2 : Inv X pins σ H1 { s1 with heap := h' } := I1.kept (t' := s1.toks) hk
    exact ⟨s1.heap.objs.size + 1, [s1.heap.objs.size + 1, s1.heap.objs.size], _, _, H1, rfl, I2, turn_enumT a (s1.heap.objs.size + 1) s1.heap.objs.size, ⟨⟨.none, he⟩, ⟨_, hit, rfl, rfl⟩, Nat.succ_ne_self _, Nat.ne_of_lt hal, Nat.ne_of_lt (Nat.lt_succ_of_lt hal)⟩, fun b hb => fin (h' := h') (by simpa using hb), q⟩
end DG

set_option Elab.async false
set_option linter.all false
set_option maxRecDepth 100000
set_option maxHeartbeats 2000000
/-! list(reversed(x)), x a list -/
namespace DG
open PySem PySem.Spec PyProof.Rows L2 RT
open Sem (wp)
section
variable {prog : Program} {w : World} {A : Around} {E : Value → Shared → Prop} {s : Shared}
theorem extend_rev {it l S : Addr} {items : Array Value} {c₀ : Nat} {R : Result → Shared → Prop} (hh : A.handled = none) (hit : s.heap.IsRevIter it l ((items.size : Int) - 1)) (hl : s.heap.IsList l items) (hne : l ≠ it) (hn : items.size ≤ sizeLine)
    (hS : s.heap.get? S = some { cls := .type "list", data := .seq #[] c₀ }) (hSi : S ≠ it) (hSl : S ≠ l)
    (hR : ∀ (h' : Heap) (tk : Nat) (acc : Array Value) (c' : Nat), (∀ b o, b ≠ S → b ≠ it → s.heap.get? b = some o → h'.get? b = some o) → h'.get? S = some { cls := .type "list", dict := none, data := .seq acc c', slots := #[] } →
      ItemsOf (fun i v => items[items.size - 1 - i]? = some v) acc items.size → R (.ok (.ret .none)) { s with heap := h', toks := tk }) :
    wpAny (model prog w) A.in1 (Builtin.List.listExtendWith (.ref S) (.ref it) .none)
      (fun fin s' => match fin with | .done f => R (.ok f) s' | .again c' => c'.quiet = true ∧ codeAny (model prog w) A c' R s') (fun e s' => R (.error e) s') s := by
  have W := (Walks.listRev (prog := prog) (w := w) (A := A.in1) hh it l hne items).toS
  have hSf : S ∉ [it, l] := by simp only [List.mem_cons, List.not_mem_nil, or_false, not_or]; exact ⟨hSi, hSl⟩
  have hT : s.TypeIs (.ref it) "list_reverseiterator" := hit.typeIs
  have h1 : Builtin.List.listSameRef (.ref S) (.ref it) = false := by simp [Builtin.List.listSameRef, hSi]
  unfold Builtin.List.listExtendWith
  refine wpAny_bind (wpAny_typeOf hT ?_)
  rw [if_neg (by rw [h1]; decide)]
  refine wpAny_bind (wpAny_pyIter_revIter hit ?_)
  refine wpAny_bind (wpAny_holding ?_)
  unfold Builtin.List.listLengthHint
  refine wpAny_bind (wpAny_specialOf hT nolen_lri ?_)
  show wpAny _ A.in1 (specialOf (Value.ref it) (Str.ofString "__length_hint__") >>= _) _ _ _
  refine wpAny_bind (wpAny_specialOf hT hint_lri ?_)
  generalize hid : ("list_reverseiterator.__length_hint__" : String) = id0
  wp_delta
  rw [show splitId id0 = some ("list_reverseiterator", "__length_hint__") from by subst hid; decide +kernel]
  subst hid
  refine wpAny_bind (wpAny_isInstance (b := true) hT (by rw [isSubtype_type]; kernel_rfl) ?_)
  refine wpAny_pure ?_
  rw [if_neg (by decide)]
  have e0 : ((items.size : Nat) : Int) - 1 - ((0 : Nat) : Int) = (items.size : Int) - 1 := by omega
  refine wpAny_pure ⟨plainId_quiet PySem.F.plain_extend_loop _, codeAny_extend_loopS W hn S hSf _ items.size 0 _ _ _ rfl (Nat.zero_le _) ⟨Nat.zero_le _, by rw [e0]; exact hit, hl⟩ hS (ItemsOf.nil _) fun s' acc' c' hm hS' hacc => ?_⟩
  rw [Moved.eq_with hm]
  refine hR s'.heap s'.toks acc' c' (fun b o hb hb2 e => hm.heap b o (fun hmem => ?_) e) hS' hacc
  rcases List.mem_cons.mp hmem with e' | hmem
  · exact hb e'
  · exact hb2 (List.mem_singleton.mp hmem)
theorem list_init_rev {it l S : Addr} {items : Array Value} {R : Result → Shared → Prop} (hh : A.handled = none) (hit : s.heap.IsRevIter it l ((items.size : Int) - 1)) (hl : s.heap.IsList l items) (hne : l ≠ it) (hn : items.size ≤ sizeLine)
    (hS : s.heap.get? S = some { cls := .type "list", data := .seq #[] }) (hSi : S ≠ it) (hSl : S ≠ l)
    (hR : ∀ (h' : Heap) (tk : Nat) (acc : Array Value) (c' : Nat), (∀ b o, b ≠ S → b ≠ it → s.heap.get? b = some o → h'.get? b = some o) → h'.get? S = some { cls := .type "list", dict := none, data := .seq acc c', slots := #[] } →
      ItemsOf (fun i v => items[items.size - 1 - i]? = some v) acc items.size → R (.ok (.ret .none)) { s with heap := h', toks := tk }) :
    wpAny (model prog w) A.in1 (Builtin.«list.__init__» ⟨[.ref S, .ref it], []⟩)
      (fun fin s' => match fin with | .done f => R (.ok f) s' | .again c' => c'.quiet = true ∧ codeAny (model prog w) A c' R s') (fun e s' => R (.error e) s') s := by
  show wpAny _ _ (do let old ← Builtin.List.listItems (.ref S); Builtin.List.listUpdate (.ref S) (fun _ => #[]); letGo old.toList.reverse; Builtin.List.listExtendWith (.ref S) (.ref it) .none) _ _ s
  refine wpAny_bind ?_
  unfold Builtin.List.listItems
  refine wpAny_bind (wpAny_seqItems hS rfl (wpAny_pure ?_))
  show wpAny _ _ (updateSeq S (fun _ => #[]) >>= fun _ => letGo (#[] : Array Value).toList.reverse >>= fun _ => Builtin.List.listExtendWith (.ref S) (.ref it) .none) _ _ s
  refine wpAny_bind (wpAny_updateSeq hS rfl ?_)
  have hS₂ := Heap.get?_update_self (Obj.mapSeq (fun _ => (#[] : Array Value))) hS rfl
  have oth : ∀ b o, b ≠ S → s.heap.get? b = some o → (s.heap.update S (Obj.mapSeq (fun _ => (#[] : Array Value)))).get? b = some o :=
    fun b o hb e => (Heap.get?_update_other _ _ (Ne.symm hb)).trans e
  refine wpAny_bind (wpAny_letGo ?_)
  refine extend_rev hh (hit.at fun o e => oth _ o (Ne.symm hSi) e) (hl.at fun o e => oth _ o (Ne.symm hSl) e) hne hn hS₂ hSi hSl fun h' tk acc' c' hk hS' hacc => ?_
  exact hR h' tk acc' c' (fun b o hb hb2 e => hk b o hb hb2 (oth b o hb e)) hS' hacc
theorem call_list_rev {it l : Addr} {items : Array Value} {Q : Value → Shared → Prop} (hh : A.handled = none) (hit : s.heap.IsRevIter it l ((items.size : Int) - 1)) (hl : s.heap.IsList l items) (hne : l ≠ it) (hn : items.size ≤ sizeLine)
    (hQ : ∀ (h' : Heap) (tk : Nat) (acc : Array Value) (c' : Nat), (∀ b o, b ≠ it → s.heap.get? b = some o → h'.get? b = some o) →
      h'.get? s.heap.objs.size = some { cls := .type "list", dict := none, data := .seq acc c', slots := #[] } → ItemsOf (fun i v => items[items.size - 1 - i]? = some v) acc items.size → Q (.ref s.heap.objs.size) { s with heap := h', toks := tk }) :
    wpAny (model prog w) A (call (.type "list") [.ref it]) Q E s := by
  refine callType_codes (Q₁ := fun obj s₁ => obj = .ref s.heap.objs.size ∧ s₁ = { s with heap := s.heap.push { cls := .type "list", data := .seq #[] } }) PySem.F.called_list (PySem.F.typeCall_list_1 _) PySem.F.entry_list_init
    (code_list_new _ ⟨rfl, rfl⟩) fun obj s₁ h₁ => ?_
  obtain ⟨rfl, rfl⟩ := h₁
  have hS : (s.heap.push { cls := .type "list", data := .seq #[] }).get? s.heap.objs.size = some { cls := .type "list", data := .seq #[] } := Heap.get?_push_size _ rfl
  obtain ⟨oi, hoi, _⟩ := id hit
  obtain ⟨ol, hol, _⟩ := id hl
  refine ⟨⟨_, hS, rfl⟩, PySem.F.args_list_init_2 _ _, list_init_rev (A := A.in1) hh (hit.at fun o e => Heap.get?_push_of_some _ e) (hl.push _) hne hn hS (Nat.ne_of_gt (Heap.lt_size hoi)) (Nat.ne_of_gt (Heap.lt_size hol)) fun h' tk acc' c' hk hS' hacc => ?_⟩
  exact ⟨rfl, hQ h' tk acc' c' (fun b o hb e => hk b o (Nat.ne_of_lt (Heap.lt_size e)) hb (Heap.get?_push_of_some _ e)) hS' hacc⟩
end
section
variable {X : Cx}
/-- list(reversed(x)), x a list: a new list -/
def tListRev (K : PySem.W.Frag) (te : TE) : TE := fun σ H Q => te σ H fun v H1 => ∃ (a : Addr) (xs : List V), v = .ref a ∧ SqL K H1 a xs ∧ ∀ q, H1 q = none → Q (.ref q) (upd H1 q (.lst xs.reverse))
theorem pe_listRev {e : Expr} {te : TE} {p p2 pos pos2 : Pos} (hc : X.calm = true) (hg : Gl X "list") (hm : X.mg "list" = none) (hb : bootBuiltins "list" = some (.type "list")) (hg2 : Gl X "reversed") (hm2 : X.mg "reversed" = none) (he : PE X e te)
    (hs : starEach [e] X.env = (false, eval e X.env) :: starEach [] X.env := by rfl)
    (hs2 : starEach [.Call (.Name "reversed" p2) [e] [] pos2] X.env = (false, eval (.Call (.Name "reversed" p2) [e] [] pos2) X.env) :: starEach [] X.env := by rfl) :
    PE X (.Call (.Name "list" p) [.Call (.Name "reversed" p2) [e] [] pos2] [] pos) (tListRev X.K te) := by
  refine ⟨fun pins s σ H Q I h => ?_⟩
  refine Call_ (ld_blt I hg hm hb (PyProof.Rows.callWith_type1 (args_cons (Call_ (ld_blt I hg2 hm2 PyProof.Rows.boot_reversed (PyProof.Rows.callWith_type1 (args_cons (thn (he.run pins s σ H _ I h) fun u s1 ⟨v, H1, I1, r1, q1⟩ => args_nil ?_) hs) hs rfl))) hs2) hs2 rfl))
  obtain ⟨a, xs, ev, hq, q⟩ := q1
  subst ev
  obtain rfl : u = Value.ref a := r1
  obtain ⟨its, rv, p', hz⟩ := I1.list hq
  refine call_reversed_list p'.isList (args_nil ?_)
  have k0 : ∀ b o, s1.heap.get? b = some o → (s1.heap.push (revObj a ((its.toArray.size : Int) - 1))).get? b = some o := fun b o e => Heap.get?_push_of_some _ e
  have hlt : a < s1.heap.objs.size := by obtain ⟨o, e, _⟩ := p'.isList; exact Heap.lt_size e
  have hit : (s1.heap.push (revObj a ((its.toArray.size : Int) - 1))).IsRevIter s1.heap.objs.size a ((its.toArray.size : Int) - 1) := ⟨_, Heap.get?_push_size _ rfl, rfl, rfl⟩
  refine call_list_rev (s := { s1 with heap := s1.heap.push (revObj a ((its.toArray.size : Int) - 1)) }) (I1.ok.hd hc) hit (p'.isList.push _) (Nat.ne_of_lt hlt) (by rw [List.size_toArray, ← rv.length]; exact hz) fun h' tk acc c' hk hS hacc => ?_
  have sz : (s1.heap.push (revObj a ((its.toArray.size : Int) - 1))).objs.size = s1.heap.objs.size + 1 := Heap.size_push ..
  have keep : ∀ b o, s1.heap.get? b = some o → h'.get? b = some o := fun b o e => hk b o (Nat.ne_of_lt (Heap.lt_size e)) (k0 b o e)
  have big : s1.heap.objs.size ≤ (s1.heap.push (revObj a ((its.toArray.size : Int) - 1))).objs.size := by rw [sz]; exact Nat.le_succ _
  have rr := vals_rev rv hacc
  refine ⟨.ref (s1.heap.push (revObj a ((its.toArray.size : Int) - 1))).objs.size, _, I1.laid (t' := tk) (o := .lst xs.reverse) keep big ⟨by rw [List.length_reverse]; exact hz, acc.toList, c', rr, ?_⟩, rfl, q _ (I1.hok.fresh big)⟩
  have e : acc.toList.toArray = acc := by simp
  rw [e]
  exact hS
end
section
open HT
variable {prog : Program} {w : World} {A : Around} {E : Value → Shared → Prop} {s : Shared}
theorem adjust_rev (n : Nat) : Builtin.Slice.sliceAdjust none none (-1) (n : Int) = ((n : Int) - 1, -1) := by
  unfold Builtin.Slice.sliceAdjust
  simp
theorem places_rev (n : Nat) : Builtin.Slice.slicePlaces ((n : Int) - 1) (-1) (-1) = n := by
  unfold Builtin.Slice.slicePlaces
  simp
  omega
theorem sliceApplied_rev {sl : Addr} {vl vu vs : Value} {n : Nat} {Q : Int × Int × Nat → Shared → Prop} (hs : s.heap.IsSliceOf sl vl vu vs) (pl : IsPart vl none) (pu : IsPart vu none) (ps : IsPart vs (some (-1)))
    (h : Q ((n : Int) - 1, -1, n) s) : wpAny (model prog w) A (Builtin.Slice.sliceApplied (.ref sl) (pure (n : Int))) Q E s := by
  obtain ⟨os, hos, hcs, hds⟩ := id hs
  unfold Builtin.Slice.sliceApplied Builtin.Slice.sliceFields
  refine wpAny_bind (wpAny_bind (wpAny_field hos hds (x := vl) rfl (wpAny_bind (wpAny_field hos hds (x := vu) rfl (wpAny_bind (wpAny_field hos hds (x := vs) rfl (wpAny_pure ?_)))))))
  refine wpAny_bind (slicePart_ ps ?_)
  show wpAny _ _ (if ((-1 : Int) == 0) = true then _ else _) _ _ s
  rw [if_neg (by decide)]
  refine wpAny_bind (slicePart_ pl (wpAny_bind (slicePart_ pu (wpAny_bind (wpAny_pure ?_)))))
  show wpAny _ _ (match Builtin.Slice.sliceAdjust none none (-1) (n : Int) with | (lo, hi) => pure (lo, (-1 : Int), Builtin.Slice.slicePlaces lo hi (-1))) _ _ s
  rw [adjust_rev n]
  show wpAny _ _ (pure ((n : Int) - 1, (-1 : Int), Builtin.Slice.slicePlaces ((n : Int) - 1) (-1) (-1))) _ _ s
  rw [places_rev]
  exact wpAny_pure h
theorem pick_rev (xs : Array Value) : ((List.range xs.size).filterMap fun (m : Nat) => xs[(((xs.size : Nat) : Int) - 1 + (m : Int) * (-1)).toNat]?).toArray = xs.toList.reverse.toArray := by
  congr 1
  apply List.ext_getElem?
  intro i
  have e : (fun (m : Nat) => xs[(((xs.size : Nat) : Int) - 1 + (m : Int) * (-1)).toNat]?) = fun m => xs[xs.size - 1 - m]? := by
    funext m
    have : (((xs.size : Nat) : Int) - 1 + (m : Int) * (-1)).toNat = xs.size - 1 - m := by omega
    rw [this]
  rw [e]
  have e2 : (List.range xs.size).filterMap (fun m => xs[xs.size - 1 - m]?) = (List.range xs.size).map (fun m => xs.getD (xs.size - 1 - m) .none) := by
    have key : ∀ l : List Nat, (∀ m ∈ l, m < xs.size) → l.filterMap (fun m => xs[xs.size - 1 - m]?) = l.map fun m => xs.getD (xs.size - 1 - m) .none := by
      intro l
      induction l with
      | nil => intro _; rfl
      | cons m l ih =>
        intro h
        have hm := h m List.mem_cons_self
        have hs : xs.size - 1 - m < xs.size := by omega
        rw [List.map_cons, ← ih fun k hk => h k (List.mem_cons_of_mem _ hk), List.filterMap_cons]
        simp [Array.getD, hs]
    exact key _ fun m hm => List.mem_range.mp hm
  rw [e2, List.getElem?_map]
  by_cases hi : i < xs.size
  · rw [List.getElem?_range hi, List.getElem?_reverse (by simpa using hi)]
    have : xs.size - 1 - i < xs.size := by omega
    simp [Array.getD, this]
  · rw [List.getElem?_eq_none (by simpa using hi), List.getElem?_eq_none (by simpa using hi)]
    rfl
theorem getItem_tuple_rev {t sl : Addr} {items : Array Value} {vl vu vs : Value} {Q : Value → Shared → Prop} (ht : IsTup s.heap t items) (hs : s.heap.IsSliceOf sl vl vu vs) (pl : IsPart vl none) (pu : IsPart vu none) (ps : IsPart vs (some (-1)))
    (h : Q (.ref s.heap.objs.size) { s with heap := s.heap.push { cls := .type "tuple", data := .seq items.toList.reverse.toArray } }) (hsz : items.size ≤ sizeLine) : wpAny (model prog w) A (getItem (.ref t) (.ref sl)) Q E s := by
  have htake : sizeOk (.seq items.toList.reverse.toArray) := by
    show items.toList.reverse.toArray.size ≤ sizeLine
    simpa using hsz
  obtain ⟨os, hos, hcs, hds⟩ := id hs
  have hTs : s.TypeIs (.ref sl) "slice" := ⟨os, hos, hcs⟩
  unfold getItem
  try with_reducible refine wpAny_holding ?_
  first | refine wpAny_bind (wpAny_pure ?_) | skip
  refine wpAny_bind (wpAny_sequenceKey ht.typeIs (by decide) ?_)
  refine wpAny_bind (wpAny_callSpecial?_slot (name := Str.ofString "__getitem__") ht.typeIs PyProof.Rows.slot_tuple_getitem
    (wpAny_call_entry PyProof.Rows.slot_tuple_getitem ht.typeIs entry_tuple_getitem ?_ (args_tuple_getitem _ _)))
  show wpAny _ _ (Builtin.Tuple.tupleItemsOf (.ref t) >>= _) _ _ s
  refine wpAny_bind (tupleItemsOf_ ht ?_)
  refine wpAny_bind (wpAny_typeOf hTs ?_)
  rw [if_pos (by decide)]
  refine wpAny_bind (sliceApplied_rev hs pl pu ps ?_)
  have hno : ¬ (((((items.size : Nat) : Int) - 1) == 0 && (-1 : Int) == 1 && (items.size == items.size)) = true) := by
    intro q
    rw [Bool.and_eq_true, Bool.and_eq_true] at q
    exact absurd q.1.2 (by decide)
  show wpAny _ _ (if ((((items.size : Nat) : Int) - 1) == 0 && (-1 : Int) == 1 && (items.size == items.size)) = true then _ else _) _ _ s
  rw [if_neg hno, pick_rev]
  first
    | exact wpAny_bind (m := Builtin.Tuple.tupleExact _) (wpAny_newObj_type (wpAny_pure ⟨_, rfl, wpAny_pure h⟩) htake)
    | exact wpAny_bind (m := Builtin.Tuple.tupleExact _) (wpAny_newObj_type (wpAny_bind (wpAny_pure (wpAny_pure ⟨_, rfl, wpAny_pure h⟩))) htake)
    | exact wpAny_bind (wpAny_bind (m := Builtin.Tuple.tupleExact _) (wpAny_newObj_type (wpAny_pure (wpAny_pure ⟨_, rfl, wpAny_pure h⟩)) htake))
    | exact wpAny_bind (wpAny_bind (m := Builtin.Tuple.tupleExact _) (wpAny_newObj_type (wpAny_pure ⟨_, rfl, wpAny_pure h⟩) htake))
end
section
variable {X : Cx}
/-- t[::-1], t a tuple or a list -/
def tRevA (K : PySem.W.Frag) (te : TE) : TE := fun σ H Q => te σ H fun x H1 => ∃ a xs, x = .ref a ∧ ((SqT K H1 a xs ∧ ∀ p o, H1 p = none → DT.NT xs.reverse o → Q (.ref p) (upd H1 p o)) ∨ (SqL K H1 a xs ∧ ∀ p, H1 p = none → Q (.ref p) (upd H1 p (.lst xs.reverse))))
theorem pe_revA {e : Expr} {te : TE} {k : Nat} {p1 p2 p3 pos : Pos} (he : PE X e te) : PE X (.Subscript e (.Slice none none (some (.UnaryOp .USub (.Constant (.int 1) k p1) p2)) p3) pos) (tRevA X.K te) := by
  refine ⟨fun pins s σ H Q I h => ?_⟩
  refine Subscript_ (thn (he.run pins s σ H _ I h) fun v s1 ⟨x, H1, I1, r1, q1⟩ => ?_)
  obtain ⟨a, xs, ex, hx⟩ := q1
  subst ex
  cases r1
  have hst : PO X (some (.UnaryOp .USub (.Constant (.int 1) k p1) p2)) (tPart (tUn (rU fun i => .int (-i)) (tC (.int 1)))) := po_some (pe_un un_neg pe_int)
  refine wpAny_Slice (thn (po_none.run pins s1 σ H1 (fun o H2 => o = none ∧ H2 = H1) I1 ⟨rfl, rfl⟩) fun vl s2 ⟨l, H2, I2, pl, el, e2⟩ => ?_)
  subst el e2
  refine thn (po_none.run pins s2 σ H2 (fun o H3 => o = none ∧ H3 = H2) I2 ⟨rfl, rfl⟩) fun vu s3 ⟨u, H3, I3, pu, eu, e3⟩ => ?_
  subst eu e3
  refine thn (hst.run pins s3 σ H3 (fun o H4 => o = some (-1) ∧ H4 = H3) I3 ⟨1, rfl, -1, rfl, rfl, rfl⟩) fun vs s4 ⟨o, H4, I4, ps, eo, e4⟩ => ?_
  subst eo e4
  have I5 : Inv X pins σ H4 { s4 with heap := s4.heap.push { cls := .type "slice", data := .fields #[vl, vu, vs] } } := I4.kept (t' := s4.toks) fun b ob q => Heap.get?_push_of_some _ q
  show wpAny (model X.prog X.w) X.A (subscriptTail e (.Slice none none (some (.UnaryOp .USub (.Constant (.int 1) k p1) p2)) p3) (.ref a) (.ref s4.heap.objs.size)) (EP X pins σ Q) X.xe { s4 with heap := s4.heap.push { cls := .type "slice", data := .fields #[vl, vu, vs] } }
  rcases hx with ⟨hx, q⟩ | ⟨hx, q⟩
  · obtain ⟨its, r, ht, hz⟩ := I5.tuple hx
    have hlen := r.length
    refine tail_any (ops := [.ref a, .ref s4.heap.objs.size]) ht.typeIs (PyProof.Rows.slot_tuple_getitem.lookup) ?_ (by with_unfolding_all rfl)
    refine getItem_tuple_rev ht (Heap.IsSliceOf.new _ vl vu vs) pl pu ps ?_ (by rw [List.size_toArray]; omega)
    exact DT.laidQ I5 r.reverse (by rw [List.length_reverse]; exact hz) q
  · obtain ⟨its, r, ht, hz⟩ := I5.list hx
    have hlen := r.length
    refine tail_any (ops := [.ref a, .ref s4.heap.objs.size]) ht.isList.typeIs (PySem.slot_list_getitem.lookup) ?_ (by with_unfolding_all rfl)
    refine wpAny_getItem_list_slice ht.isList (Heap.IsSliceOf.new _ vl vu vs) pl pu ps (by decide) ?_ (by rw [List.size_toArray]; omega)
    rw [PySem.W.krv_pick]
    refine ⟨.ref _, _, I5.laid (t' := s4.toks) (o := .lst xs.reverse) (fun b ob q => Heap.get?_push_of_some _ q) (Nat.le_refl _) ?_, rfl, q _ (I5.hok.fresh (Nat.le_refl _))⟩
    exact ⟨by rw [List.length_reverse]; exact hz, _, 0, r.reverse, Heap.get?_push_size _ rfl⟩
end
end DG

set_option Elab.async false
set_option linter.all false
set_option maxRecDepth 100000
set_option maxHeartbeats 2000000
namespace DL
open PySem PySem.Spec PySem.SeqAt PySem.W L2 DG PyProof.Rows
open GxR (TabB TabG Tabbed)
section
variable {X : Cx} {T : Addr → Prop} {Wx : WX} {a b c o e f : Expr} {es : List Expr} {fa fb fc fo : Ef} {fs : Ev → Wd → R (List D)} {pos apos cpos p1 p2 p3 p pos2 tpos px py pz pt : Pos} {x y z : Str}

/-! ### d.get(k, z) -/
def eGet2 (fo fk fz : Ef) : Ef := fun ρ w => (fo ρ w).bind fun d w1 => match d with
  | .dict kds => (fk ρ w1).bind fun k w2 => (fz ρ w2).bind fun z w3 => match dkey k with
    | some k => .ok ((valD kds k).getD z) w3
    | none => .bad
  | _ => .bad
theorem se_get2 (hu : X.A.units + 100 < cLine) (ho : SB (gx X T) Wx X o fo) (he : SE (gx X T) Wx X e fa) (hf : SE (gx X T) Wx X f fb) (m : M2 X o "get" apos e f cpos) : SE (gx X T) Wx X (.Call (.Attribute o "get" apos) [e, f] [] cpos) (eGet2 fo fa fb) :=
  PE.imp (pe_dget2 (by omega) ho he hf m) fun σ H Q ⟨F, ad, ρ, w, a0, p⟩ => un_in a0 p fun F1 H1 w1 x dx a1 g1 rx p1 => by
    cases dx with
    | dict kds =>
      obtain ⟨a, kvs, rfl, hr, hk⟩ := rx.dict a1.hp
      refine ⟨a, rfl, .inl ⟨kvs, hr⟩, unE_in a1 p1 fun F2 H2 w2 y dy a2 g2 ry p2 => unE_in a2 p2 fun F3 H3 w3 z dz a3 g3 rz p3 => ?_⟩
      cases ek : dkey dy with
      | none => simp only [ek] at p3; exact p3.elim
      | some k =>
        simp only [ek] at p3
        obtain ⟨a', r, e', g, h1, h2⟩ := dd_get a3.hp ((rx.grow a1.hp g2).grow a2.hp g3) (Rep.b (Rep.mono g3.mono ry)) ek
        cases e'
        refine ⟨r, g, ?_⟩
        cases q : valD kds k with
        | none =>
          rw [q] at p3
          rw [h2 q]
          exact p3 F3 H3 a3.hp Grow.refl z rz
        | some d =>
          rw [q] at p3
          obtain ⟨u, rfl, ru⟩ := h1 d q
          exact p3 F3 H3 a3.hp Grow.refl u ru
    | _ => exact p1.elim

/-! ### what is walked: a dict's keys, pairs; enumerate -/
def fstD (kds : List (D × D)) : List D := kds.map (·.1)
def pairsD (kds : List (D × D)) : List D := kds.map fun p => .tuple [p.1, p.2]
theorem DKp.at {K : PySem.W.Frag} {F : Hp} : ∀ {kvs : List (Key × V)} {kds : List (D × D)} (i : Nat) {k : Key} {v : V}, DKp K F kvs kds → kvs[i]? = some (k, v) → ∃ d, kds[i]? = some (keyD k, d) ∧ Rep K F v d
  | _, _, _, _, _, .nil, e => by simp at e
  | _, _, 0, _, _, .cons r _, e => by simp at e; obtain ⟨rfl, rfl⟩ := e; exact ⟨_, rfl, r⟩
  | _, _, i + 1, _, _, .cons _ t, e => by
    obtain ⟨d, h1, h2⟩ := DKp.at i t (by simpa using e)
    exact ⟨d, by simpa using h1, h2⟩
theorem rep_key {K : PySem.W.Frag} {F : Hp} (k : Key) : Rep K F (kV k) (keyD k) := by
  cases k with
  | inl i => exact .int i
  | inr x => exact .str x
theorem it_keys {G : Gx} {ad : Option Addr} {F : Hp} {d : Addr} {ob : Obj} {kvs : List (Key × V)} {kds : List (D × D)} (e : F d = some (.frz ob (.dK kvs))) (r : DKp G.K F kvs kds) : ItOk false G ad F (Itk d ob kvs) (fstD kds) := fun F2 H2 w2 h2 m => by
  have q : H2 d = some (.frz ob (.dK kvs)) := h2.sub _ _ (m _ _ e)
  have hl : (fstD kds).length = kvs.length := by rw [fstD, List.length_map, r.length]
  rw [hl]
  refine ⟨fun i hi => ⟨q, hi⟩, ⟨q, Nat.le_refl _⟩, fun i x H3 hi y => ?_⟩
  obtain ⟨rfl, k, v, e1, rfl⟩ := y
  obtain ⟨d, h3, _⟩ := r.at i e1
  exact ⟨F2, keyD k, by rw [fstD, List.getElem?_map, h3]; rfl, h2, Grow.refl, rep_key k⟩
/-- a new pair comes -/
theorem newPair {G : Gx} {F H : Hp} {ad : Option Addr} {w : Wd} {q : Addr} {u v : V} {du dv : D} (h : HeapOk G F ad H w) (hq : H q = none) (ru : Rep G.K F u du) (rv : Rep G.K F v dv) :
    HeapOk G (upd F q (.tup [u, v])) ad (upd H q (.tup [u, v])) w ∧ Grow G ad F H (upd F q (.tup [u, v])) (upd H q (.tup [u, v])) ∧ RpM true G.K (upd F q (.tup [u, v])) (.ref q) (.tuple [du, dv]) := by
  obtain ⟨h1, g1⟩ := h.newF (o := .tup [u, v]) hq
  exact ⟨h1, g1, .inr ⟨_, _, _, rfl, rfl, SqT.of upd_same, .cons (Rep.mono g1.mono ru) (.cons (Rep.mono g1.mono rv) .nil)⟩⟩
theorem it_items {G : Gx} {ad : Option Addr} {F : Hp} {d : Addr} {ob : Obj} {kvs : List (Key × V)} {kds : List (D × D)} (e : F d = some (.frz ob (.dK kvs))) (r : DKp G.K F kvs kds) : ItOk true G ad F (Iti d ob kvs) (pairsD kds) := fun F2 H2 w2 h2 m => by
  have q : H2 d = some (.frz ob (.dK kvs)) := h2.sub _ _ (m _ _ e)
  have hl : (pairsD kds).length = kvs.length := by rw [pairsD, List.length_map, r.length]
  rw [hl]
  refine ⟨fun i hi => ⟨q, hi⟩, ⟨q, Nat.le_refl _⟩, fun i x H3 hi y => ?_⟩
  obtain ⟨q, k, v, e1, rfl, hq, rfl⟩ := y
  obtain ⟨d, h3, rd⟩ := r.at i e1
  obtain ⟨z1, z2, z3⟩ := newPair h2 hq (rep_key k) (Rep.mono m rd)
  exact ⟨_, _, by rw [pairsD, List.getElem?_map, h3]; rfl, z1, z2, z3⟩
def enumD (ds : List D) : List D := ds.mapIdx fun i d => .tuple [.int (i : Nat), d]
theorem it_enum {G : Gx} {ad : Option Addr} {F : Hp} {a : Addr} {vs : List V} {ds : List D} (e : F a = some (.lst vs)) (r : RepL G.K F vs ds) : ItOk true G ad F (Ite G.K a) (enumD ds) := fun F2 H2 w2 h2 m => by
  have q : SqL G.K H2 a vs := SqL.of (h2.sub _ _ (m _ _ e))
  have hl : (enumD ds).length = vs.length := by rw [enumD, List.length_mapIdx, r.length]
  rw [hl]
  refine ⟨fun i hi => ⟨vs, vs[i], q, by simp [hi]⟩, ⟨vs, q, Nat.le_refl _⟩, fun i x H3 hi y => ?_⟩
  obtain ⟨q1, u, rfl, hq, rfl, hu⟩ := y
  obtain ⟨d, h3, rd⟩ := r.at i (hu vs q)
  obtain ⟨z1, z2, z3⟩ := newPair h2 hq (.int (i : Nat)) (Rep.mono m rd)
  exact ⟨_, _, by rw [enumD, List.getElem?_mapIdx, h3]; rfl, z1, z2, z3⟩
theorem it_enumT {G : Gx} {ad : Option Addr} {F : Hp} {a : Addr} {vs : List V} {ds : List D} (e : SqT G.K F a vs) (r : RepL G.K F vs ds) : ItOk true G ad F (ItEt G.K a) (enumD ds) := fun F2 H2 w2 h2 m => by
  have q : SqT G.K H2 a vs := sqT_mono h2.sub (sqT_mono m e)
  have hl : (enumD ds).length = vs.length := by rw [enumD, List.length_mapIdx, r.length]
  rw [hl]
  refine ⟨fun i hi => ⟨vs, vs[i], q, by simp [hi]⟩, ⟨vs, q, Nat.le_refl _⟩, fun i x H3 hi y => ?_⟩
  obtain ⟨q1, u, rfl, hq, rfl, hu⟩ := y
  obtain ⟨d, h3, rd⟩ := r.at i (hu vs q)
  obtain ⟨z1, z2, z3⟩ := newPair h2 hq (.int (i : Nat)) (Rep.mono m rd)
  exact ⟨_, _, by rw [enumD, List.getElem?_mapIdx, h3]; rfl, z1, z2, z3⟩
def iDk (fa : Ef) : Ev → Wd → R (List D) := fun ρ w => (fa ρ w).bind fun d w1 => match d with
  | .dict kds => .ok (fstD kds) w1
  | _ => .bad
theorem si_keys {tg : Expr} (ha : SE (gx X T) Wx X a fa) : SI false (gx X T) Wx X tg a (iDk fa) := PI.imp (pi_keys ha) fun σ H Q ⟨F, ad, ρ, w, a0, p⟩ => unE_in a0 p fun F1 H1 w1 x dx a1 _ rx p1 => by
  cases rx with
  | dK e r => exact ⟨_, _, rfl, .inl ⟨_, a1.hp.sub _ _ e, p1 F1 H1 a1.hp Grow.refl _ (it_keys e (DKp.of r))⟩⟩
  | _ => exact p1.elim
def iEnm (fa : Ef) : Ev → Wd → R (List D) := fun ρ w => (fa ρ w).bind fun d w1 => match d with
  | .list ds => .ok (enumD ds) w1
  | .tuple ds => .ok (enumD ds) w1
  | _ => .bad
theorem si_enum {elts : List Expr} {kk : Nat} (hg : Gl X "enumerate") (hm : X.mg "enumerate" = none) (ha : SE (gx X T) Wx X a fa) (hs : starEach [a] X.env = (false, eval a X.env) :: starEach [] X.env := by rfl) :
    SI true (gx X T) Wx X (.Tuple elts kk tpos) (.Call (.Name "enumerate" p) [a] [] pos) (iEnm fa) :=
  PI.imp (pi_enumA hg hm ha hs) fun σ H Q ⟨F, ad, ρ, w, a0, p⟩ => unE_in a0 p fun F1 H1 w1 x dx a1 _ rx p1 => by
    cases rx with
    | lst e r => exact ⟨_, rfl, .inl ⟨_, SqL.of (a1.hp.sub _ _ e), p1 F1 H1 a1.hp Grow.refl _ (it_enum e r)⟩⟩
    | tup e r => exact ⟨_, rfl, .inr ⟨_, sqT_mono a1.hp.sub e.t, p1 F1 H1 a1.hp Grow.refl _ (it_enumT e.t r)⟩⟩
    | _ => exact p1.elim

/-! ### starred items of a display -/
def lStar (fe : Ef) (fs : Ev → Wd → R (List D)) : Ev → Wd → R (List D) := fun ρ w => (fe ρ w).bind fun d w1 => match seqOf d with
  | some xs => (fs ρ w1).bind fun ds w2 => .ok (xs ++ ds) w2
  | none => .bad
theorem sl_star (he : SE (gx X T) Wx X e fa) (hs : SL (gx X T) Wx X es fs) (hst : starEach (.Starred e p :: es) X.env = (true, eval e X.env) :: starEach es X.env := by rfl) : SL (gx X T) Wx X (.Starred e p :: es) (lStar fa fs) :=
  PA.imp (StX.pa_star he hs hst) fun σ H Q ⟨F, ad, ρ, w, a0, p⟩ => unE_in a0 p fun F1 H1 w1 x dx a1 g1 rx p1 => by
    cases rx with
    | lst e r => exact ⟨_, _, rfl, .inr (SqL.of (a1.hp.sub _ _ e)), F1, ad, ρ, w1, a1, (p1.bind a1.hp).imp fun ds w2 F2 H2 h2 g2 p2 vs r2 => p2 F2 H2 h2 Grow.refl _ ((r.mono g2.mono).append r2)⟩
    | tup e r => exact ⟨_, _, rfl, .inl (sqT_mono a1.hp.sub e.t), F1, ad, ρ, w1, a1, (p1.bind a1.hp).imp fun ds w2 F2 H2 h2 g2 p2 vs r2 => p2 F2 H2 h2 Grow.refl _ ((r.mono g2.mono).append r2)⟩
    | _ => exact p1.elim

/-! ### the other way round -/
def dRev : D → Option D
  | .list ds => some (.list ds.reverse)
  | .tuple ds => some (.tuple ds.reverse)
  | _ => none
def eRev (fa : Ef) : Ef := fun ρ w => (fa ρ w).bind fun d w1 => R.of w1 (dRev d)
theorem se_rev {k : Nat} (ha : SB (gx X T) Wx X a fa) : SE (gx X T) Wx X (.Subscript a (.Slice none none (some (.UnaryOp .USub (.Constant (.int 1) k p1) p2)) p3) pos) (eRev fa) :=
  PE.imp (pe_revA ha) fun σ H Q ⟨F, ad, ρ, w, a0, p⟩ => un_in a0 p fun F1 H1 w1 x dx a1 g1 rx p1 => by
    cases dx with
    | list ds =>
      obtain ⟨a, vs, rfl, ha, r⟩ := rx.list a1.hp
      refine ⟨a, vs, rfl, .inr ⟨SqL.of ha, fun q hq => ?_⟩⟩
      obtain ⟨h2, g2⟩ := a1.hp.newF (o := .lst vs.reverse) hq
      exact p1 _ _ h2 g2 _ (.lst upd_same (r.reverse.mono g2.mono))
    | tuple ds =>
      obtain ⟨a, vs, rfl, ha, r⟩ := rx.tup a1.hp
      refine ⟨a, vs, rfl, .inl ⟨ha, fun q o hq nt => ?_⟩⟩
      obtain ⟨h2, g2⟩ := a1.hp.newF (o := o) hq
      exact p1 _ _ h2 g2 _ (.tup (.inl ⟨o, upd_same, nt⟩) (r.reverse.mono g2.mono))
    | _ => exact p1.elim
def oRev (fa : Ef) : Ev → Wd → R (List D) := fun ρ w => (fa ρ w).bind fun d w1 => match d with
  | .list ds => .ok ds.reverse w1
  | _ => .bad
theorem so_rev (hc : X.calm = true) (hg : Gl X "list") (hm : X.mg "list" = none) (hb : bootBuiltins "list" = some (.type "list")) (hg2 : Gl X "reversed") (hm2 : X.mg "reversed" = none) (ha : SB (gx X T) Wx X a fa)
    (hs : starEach [a] X.env = (false, eval a X.env) :: starEach [] X.env := by rfl)
    (hs2 : starEach [.Call (.Name "reversed" p2) [a] [] pos2] X.env = (false, eval (.Call (.Name "reversed" p2) [a] [] pos2) X.env) :: starEach [] X.env := by rfl) :
    SO (gx X T) Wx X (.Call (.Name "list" p) [.Call (.Name "reversed" p2) [a] [] pos2] [] pos) (oRev fa) :=
  PE.imp (pe_listRev hc hg hm hb hg2 hm2 ha hs hs2) fun σ H Q ⟨F, ad, ρ, w, a0, p⟩ => un_in a0 p fun F1 H1 w1 x dx a1 g1 rx p1 => by
    cases dx with
    | list ds =>
      obtain ⟨a, vs, rfl, ha, r⟩ := rx.list a1.hp
      refine ⟨a, vs, rfl, SqL.of ha, fun q hq => ?_⟩
      obtain ⟨h2, g2⟩ := a1.hp.new (o := .lst vs.reverse) hq
      obtain ⟨n1, n2⟩ := fresh_of a0.hp a1.hp g1 hq
      exact p1 _ _ h2 g2 q vs.reverse n1 upd_same n2 r.reverse
    | _ => exact p1.elim

/-! ### the draws, the script -/
def eDrLen (i : Nat) : Ef := fun ρ w => match ρ[i]? with
  | some (some .dr) => .ok (.int w.length) w
  | some (some (.sc ns)) => .ok (.int ns.length) w
  | _ => .bad
theorem se_drLen {i : Nat} (hg : Gl X "len") (hm : X.mg "len" = none) (hb : bootBuiltins "len" = some (.builtin "len")) (hv : PE X a (tVar i)) (he : starEach [a] X.env = (false, eval a X.env) :: starEach [] X.env := by rfl) (hpl : (backTo pos (starEach [] X.env)).any (·.1) = false := by rfl) :
    SE (gx X T) Wx X (.Call (.Name "len" p) [a] [] pos) (eDrLen i) :=
  PE.imp (pe_callB call_len_seq hg hm hb (pa_cons hv pa_nil he) (by decide) (by decide) he hpl) fun σ H Q ⟨F, ad, ρ, w, a0, p⟩ => by
    unfold eDrLen at p
    split at p
    · rename_i e0
      obtain ⟨v, h1, a, ea, rfl⟩ := a0.en.sl i _ e0
      obtain ⟨vs, h2, h3⟩ := a0.hp.dr a ea
      exact ⟨_, h1, a, vs, rfl, .inl (SqL.of h2), by rw [h3.length]; exact p F H a0.hp Grow.refl _ (.int _)⟩
    · rename_i ns e0
      obtain ⟨v, h1, a, rfl, h2⟩ := a0.en.sl i _ e0
      exact ⟨_, h1, a, _, rfl, .inl (sqL_mono a0.hp.sub h2), by rw [List.length_map]; exact p F H a0.hp Grow.refl _ (.int _)⟩
    · exact p.elim
def eDrPop (i : Nat) : Ef := fun ρ w => match ρ[i]? with
  | some (some .dr) => match w[w.length - 1]? with
    | some d => .ok d w.dropLast
    | none => .bad
  | _ => .bad
theorem se_drPop {i : Nat} (hv : PE X o (tVar i)) (hbase : attributeBase o "pop" X.env (eval o X.env) = eval o X.env := by rfl) (hline : (apos.endLine == cpos.line) = true := by rfl) :
    SE (gx X T) Wx X (.Call (.Attribute o "pop" apos) [] [] cpos) (eDrPop i) :=
  PE.imp (pe_bm0 PySem.F.plainAttrs_list PySem.F.slot_list_pop PySem.F.type_list_pop mt_pop hv hbase hline) fun σ H Q ⟨F, ad, ρ, w, a0, p⟩ => by
    unfold eDrPop at p
    split at p
    case h_2 => exact p.elim
    rename_i e0
    split at p
    case h_2 => exact p.elim
    rename_i d ed
    obtain ⟨v, h1, a, ea, rfl⟩ := a0.en.sl i _ e0
    obtain ⟨vs, h2, h3⟩ := a0.hp.dr a ea
    obtain ⟨y, h4, ry⟩ := h3.get _ ed
    rw [← h3.length] at h4
    refine ⟨_, h1, .inl ⟨rfl, vs, SqL.of h2⟩, a, vs, y, rfl, rfl, h2, h4, ?_⟩
    refine p F _ ⟨fun b o q => ?_, a0.hp.noT, a0.hp.noD, fun b q => ?_, fun b q => ?_⟩ ⟨fun _ _ q => q, fun b o q n1 n2 => ?_, fun _ _ q => q⟩ y ry
    · rw [upd_ne fun z => by subst z; exact a0.hp.noD b (by rw [q]; exact fun z => by cases z) ea]; exact a0.hp.sub b o q
    · obtain ⟨ps, z1, z2⟩ := a0.hp.tab b q
      exact ⟨ps, by rw [upd_ne fun z => by subst z; rw [h2] at z1; cases z1]; exact z1, z2⟩
    · rw [ea] at q
      cases q
      exact ⟨vs.dropLast, upd_same, h3.dropLast⟩
    · rw [upd_ne fun z => n2 (by rw [z]; exact ea)]; exact q
def eScIx (i : Nat) (fb : Ef) : Ef := fun ρ w => match ρ[i]? with
  | some (some (.sc ns)) => (fb ρ w).bind fun d w1 => match d with
    | .int j => R.of w1 ((L2.atI ns j).map .int)
    | _ => .bad
  | _ => .bad
theorem atI_map {α β : Type} (f : α → β) (xs : List α) (i : Int) : L2.atI (xs.map f) i = (L2.atI xs i).map f := by
  unfold L2.atI
  rw [List.length_map]
  cases ixN xs.length i with
  | none => rfl
  | some j => show (xs.map f)[j]? = (xs[j]?).map f; rw [List.getElem?_map]
theorem se_scIx {i : Nat} (hv : PE X a (tVar i)) (hb : SE (gx X T) Wx X b fb) (hs : PlainIx b := by exact fun _ _ => rfl) : SE (gx X T) Wx X (.Subscript a b pos) (eScIx i fb) :=
  PE.imp (pe_ix ix_list hv hb hs) fun σ H Q ⟨F, ad, ρ, w, a0, p⟩ => by
    unfold eScIx at p
    split at p
    case h_2 => exact p.elim
    rename_i ns e0
    obtain ⟨v, h1, a, rfl, h2⟩ := a0.en.sl i _ e0
    refine ⟨_, h1, unE_in a0 p fun F1 H1 w1 x dx a1 g1 rx p1 => ?_⟩
    cases dx with
    | int j =>
      cases rx
      cases q : L2.atI ns j with
      | none => simp only [q] at p1; exact p1.elim
      | some n =>
        simp only [q] at p1
        exact ⟨a, _, j, .int n, rfl, rfl, sqL_mono a1.hp.sub (sqL_mono g1.mono h2), by rw [atI_map, q]; rfl, p1 F1 H1 a1.hp Grow.refl _ (.int n)⟩
    | _ => exact p1.elim
def iSc (i : Nat) : Ev → Wd → R (List D) := fun ρ w => match ρ[i]? with
  | some (some (.sc ns)) => .ok (ns.map .int) w
  | _ => .bad
theorem it_sc {G : Gx} {ad : Option Addr} {F : Hp} {a : Addr} {ns : List Int} (e : SqL G.K F a (ns.map V.int)) : ItOk false G ad F (Itl G.K a) (ns.map .int) := fun F2 H2 w2 h2 m => by
  have q : SqL G.K H2 a (ns.map V.int) := sqL_mono h2.sub (sqL_mono m e)
  have w := walk_list (K := G.K) (a := a) (xs := ns.map V.int)
  have hl : (ns.map (PyData.int)).length = (ns.map V.int).length := by simp
  rw [hl]
  refine ⟨fun i hi => w.goes i H2 hi q, w.stops H2 q, fun i x H3 hi y => ?_⟩
  obtain ⟨e1, e2⟩ := w.yields i H2 x H3 hi q y
  rw [e1]
  have e2 : (ns.map V.int)[i]? = some x := e2
  rw [List.getElem?_map] at e2
  cases q2 : ns[i]? with
  | none => rw [q2] at e2; cases e2
  | some n =>
    rw [q2] at e2
    cases e2
    exact ⟨F2, .int n, by rw [List.getElem?_map, q2]; rfl, h2, Grow.refl, .int n⟩
theorem si_sc {i : Nat} {tg : Expr} (hv : PE X a (tVar i)) : SI false (gx X T) Wx X tg a (iSc i) := PI.imp (pi_list hv) fun σ H Q ⟨F, ad, ρ, w, a0, p⟩ => by
  unfold iSc at p
  split at p
  · rename_i ns e0
    obtain ⟨v, h1, a, rfl, h2⟩ := a0.en.sl i _ e0
    exact ⟨_, h1, a, rfl, ⟨_, sqL_mono a0.hp.sub h2⟩, p F H a0.hp Grow.refl _ (it_sc h2)⟩
  · exact p.elim
end
end DL

set_option Elab.async false
set_option linter.all false
set_option maxRecDepth 100000
set_option maxHeartbeats 4000000
namespace DL
open PySem PySem.Spec PySem.SeqAt PySem.W L2 DG PyProof.Rows
open GxR (TabB TabG Tabbed)

/-! ### comprehensions of two clauses -/
def lc2L (tgt : Tg) (tt : Ev → Wd → R Bool) (fi1 : Ev → Wd → R (List D)) (tgt1 : Tg) (tt1 : Ev → Wd → R Bool) (fe : Ef) (vs1 : List Nat) (ρ : Ev) : List D → Wd → R (List D)
  | [], w => .ok [] w
  | d :: ds, w => match tgt d ρ with
    | none => .bad
    | some ρ1 => (tt ρ1 w).bind fun b w1 => if b = true then (fi1 ρ1 w1).bind fun es w2 => (lcL tgt1 tt1 fe (wipeE ρ1 vs1) es w2).bind fun ys w3 => (lc2L tgt tt fi1 tgt1 tt1 fe vs1 ρ ds w3).bind fun zs w4 => .ok (ys ++ zs) w4
      else lc2L tgt tt fi1 tgt1 tt1 fe vs1 ρ ds w1
/-- what was gathered ahead, and the length's bound -/
def fit (acc : List D) (r : R (List D)) : R (List D) := (r.bind fun ys w => if (acc ++ ys).length ≤ sizeLine then .ok (acc ++ ys) w else .bad).calm
def oLc2 (fi : Ev → Wd → R (List D)) (tgt : Tg) (tt : Ev → Wd → R Bool) (fi1 : Ev → Wd → R (List D)) (tgt1 : Tg) (tt1 : Ev → Wd → R Bool) (fe : Ef) (vs vs1 : List Nat) : Ev → Wd → R (List D) := fun ρ w =>
  (fi ρ w).bind fun ds w1 => fit [] (lc2L tgt tt fi1 tgt1 tt1 fe vs1 (wipeE ρ vs) ds w1)
theorem fit_cons {acc : List D} {y : D} {r : R (List D)} : fit acc (r.bind fun ys w => .ok (y :: ys) w) = fit (acc ++ [y]) r := by
  cases r with
  | ok ys w =>
    show R.calm (if (acc ++ y :: ys).length ≤ sizeLine then _ else _) = R.calm (if (acc ++ [y] ++ ys).length ≤ sizeLine then _ else _)
    have e : acc ++ y :: ys = acc ++ [y] ++ ys := by simp
    rw [e]
  | exc c w => rfl
  | bad => rfl
theorem fit_ok {G : Gx} {Wx : WX} {σ : L2.St} {F H : Hp} {ad : Option Addr} {P : List D → Wd → Hp → Hp → Prop} {acc : List D} {r : R (List D)} (h : Post G Wx σ F ad H P (fit acc r)) : acc.length ≤ sizeLine := by
  cases r with
  | ok ys w =>
    have h : Post G Wx σ F ad H P (R.calm (if (acc ++ ys).length ≤ sizeLine then .ok (acc ++ ys) w else .bad)) := h
    split at h
    · rename_i hl
      rw [List.length_append] at hl
      omega
    · exact h.elim
  | exc c w => exact h.elim
  | bad => exact h.elim
/-- the list that grows at L -/
structure Gath (G : Gx) (ad : Option Addr) (F1 H1 : Hp) (L : Addr) (F H : Hp) (w : Wd) (acc : List D) : Prop where
  hp : HeapOk G F ad H w
  gr : Grow G ad F1 H1 F H
  nF : F L = none
  ls : ∃ us, H L = some (.lst us) ∧ RepL G.K F us acc
theorem Gath.step {G : Gx} {ad : Option Addr} {F1 H1 F H F' H' : Hp} {L : Addr} {w w' : Wd} {acc : List D} (nT : ¬ G.T L) (nD : ad ≠ some L) (g : Gath G ad F1 H1 L F H w acc) (h : HeapOk G F' ad H' w') (g' : Grow G ad F H F' H') : Gath G ad F1 H1 L F' H' w' acc := by
  obtain ⟨us, h1, h2⟩ := g.ls
  exact ⟨h, g.gr.then g.hp g', g'.nf L (by rw [h1]; exact fun z => by cases z) g.nF, us, g'.keep L _ h1 nT nD, h2.mono g'.mono⟩
theorem Gath.push {G : Gx} {ad : Option Addr} {F1 H1 F H : Hp} {L : Addr} {w : Wd} {acc : List D} {v : V} {y : D} {us : List V} (nT : ¬ G.T L) (nD : ad ≠ some L) (n1 : H1 L = none) (g : Gath G ad F1 H1 L F H w acc) (e : H L = some (.lst us)) (r : Rep G.K F v y) :
    Gath G ad F1 H1 L F (upd H L (.lst (us ++ [v]))) w (acc ++ [y]) := by
  obtain ⟨us', h1, h2⟩ := g.ls
  rw [e] at h1
  cases h1
  refine ⟨⟨fun b o q => ?_, g.hp.noT, g.hp.noD, fun b q => ?_, fun b q => ?_⟩, ⟨g.gr.mono, fun b o q n1' n2 => ?_, g.gr.nf⟩, g.nF, _, upd_same, h2.snoc r⟩
  · rw [upd_ne (ne_of_none q g.nF)]; exact g.hp.sub b o q
  · obtain ⟨ps, e, t⟩ := g.hp.tab b q
    exact ⟨ps, by rw [upd_ne fun z => by subst z; exact nT q]; exact e, t⟩
  · obtain ⟨us, e, r⟩ := g.hp.dr b q
    exact ⟨us, by rw [upd_ne fun z => by subst z; exact nD q]; exact e, r⟩
  · rw [upd_ne (ne_of_none q n1)]; exact g.gr.keep b o q n1' n2
theorem EnvOk.re {G : Gx} {F F' H H' : Hp} {ad : Option Addr} {σ σ2 : L2.St} {ρ ρ2 : Ev} (en : EnvOk G F ad σ2 H ρ2) (o : OwnSub σ σ2 ρ ρ2) (b : EnvOk G F' ad σ H' ρ) (m : ∀ a o, F a = some o → F' a = some o) : EnvOk G F' ad σ2 H' ρ2 where
  len := en.len
  sl := fun i s e => by
    obtain ⟨v, h1, h2⟩ := en.sl i s e
    cases ho : s.own with
    | true =>
      obtain ⟨q1, q2⟩ := o i s e ho
      obtain ⟨v', h3, h4⟩ := b.sl i s q1
      rw [q2] at h1
      rw [h3] at h1
      cases h1
      exact ⟨_, by rw [q2]; exact h3, h4⟩
    | false =>
      refine ⟨v, h1, ?_⟩
      cases s with
      | v d => exact Rep.mono m h2
      | dr => exact h2
      | sc ns => let ⟨a, z, q⟩ := h2; exact ⟨a, z, sqL_mono m q⟩
      | ol ds => cases ho
      | od ks => cases ho
  dist := en.dist
section
variable {md md1 : Bool} {X : Cx} {T : Addr → Prop} {Wx : WX} {elt tg iter tg1 iter1 : Expr} {ifs ifs1 : List Expr} {scope : Scope} {own : List (Str × Nat)} {pos spos : Pos} {fi fi1 : Ev → Wd → R (List D)} {tgt tgt1 : Tg} {ix ix1 : List Nat} {tt tt1 : Ev → Wd → R Bool} {fe : Ef}
theorem lc2_in {vs vs1 : List Nat} {σ : L2.St} {H : Hp} {Q : VK} (hix : ∀ i ∈ ix, i ∈ vs) (hix1 : ∀ i ∈ ix1, i ∈ vs1) (h : tO (gx X T) Wx (oLc2 fi tgt tt fi1 tgt1 tt1 fe vs vs1) σ H Q) :
    tLc2 (tI md (gx X T) Wx fi) (tG md (gx X T) ix tgt) (tT (gx X T) W0 tt) (tI md1 (gx X T) W0 fi1) (tG md1 (gx X T) ix1 tgt1) (tT (gx X T) W0 tt1) (tD (gx X T) W0 fe) vs vs1 σ H Q := by
  obtain ⟨F, ad, ρ, w, a0, p⟩ := h
  refine ⟨F, ad, ρ, w, a0, (p.bind a0.hp).imp fun ds w1 F1 H1 h1 g1 p1 J hJ L hL => ?_⟩
  have nT : ¬ T L := fun z => h1.tN L z hL
  have nD : ad ≠ some L := fun z => h1.dN L z hL
  obtain ⟨hH, hF1⟩ := fresh_of a0.hp h1 g1 hL
  obtain ⟨h2, g2⟩ := h1.new (o := .lst []) hL
  have a1 := a0.grow h1 g1
  -- the continuation
  generalize hP : (fun (ds : List D) (x : Wd) (F' H' : Hp) => ∀ (a : Addr) (vs : List V), H a = none → H' a = some (.lst vs) → F' a = none → RepL X.K F' vs ds → Q (.ref a) H') = P at p1
  refine ⟨fun i m H' => ∃ F2 w2 acc, Gath (gx X T) ad F1 H1 L F2 H' w2 acc ∧ m = ds.length - i ∧ i ≤ ds.length ∧ Post (gx X T) Wx σ F1 ad H1 P (fit acc (lc2L tgt tt fi1 tgt1 tt1 fe vs1 (wipeE ρ vs) (ds.drop i) w2)), ?_, fun i m H' hW => ?_⟩
  · exact ⟨ds.length, F1, w1, [], ⟨h2, g2, hF1, [], upd_same, .nil⟩, rfl, Nat.zero_le _, p1⟩
  · obtain ⟨F2, w2, acc, G2, hm, hi, p3⟩ := hW
    obtain ⟨k1, k2, k3⟩ := hJ F2 H' w2 G2.hp G2.gr.mono
    by_cases hlt : i < ds.length
    · refine .inr ⟨k1 i hlt, fun H4 => ∃ F4 w4 acc, Gath (gx X T) ad F1 H1 L F4 H4 w4 acc ∧ Post (gx X T) Wx σ F1 ad H1 P (fit acc (lc2L tgt tt fi1 tgt1 tt1 fe vs1 (wipeE ρ vs) (ds.drop (i + 1)) w4)), fun H4 z => ?_, fun x H4 y => ?_⟩
      · obtain ⟨F4, w4, acc, z1, z2⟩ := z
        exact ⟨ds.length - (i + 1), by omega, F4, w4, acc, z1, rfl, hlt, z2⟩
      · obtain ⟨F4, d, e1, h4, g4, r4⟩ := k3 i x H4 hlt y
        rw [drop_cons e1] at p3
        unfold lc2L at p3
        have G4 := G2.step nT nD h4 g4
        have a4 : At (gx X T) F4 ad (wipe σ vs) H4 (wipeE ρ vs) w2 := ⟨h4, (a1.en.grow a1.hp G4.gr).wipe⟩
        cases et : tgt d (wipeE ρ vs) with
        | none => simp only [et] at p3; exact p3.elim
        | some ρ1 =>
          simp only [et] at p3
          refine ⟨F4, ad, wipeE ρ vs, w2, d, ρ1, a4, r4, et, fun σ2 en2 own2 os => ⟨?_, ?_⟩⟩
          · have e := wipe_eq (σ := wipe σ vs) (vs := vs) os.1 fun j hj => os.2 j fun z => hj (hix j z)
            rw [e]; exact wipe_wipe
          · refine ⟨F4, ad, ρ1, w2, ⟨h4, en2⟩, ?_⟩
            cases eb : tt ρ1 w2 with
            | bad => simp only [eb] at p3; exact p3.elim
            | exc c w => simp only [eb] at p3; exact p3.elim
            | ok b w5 =>
              simp only [eb] at p3
              intro F5 H5 h5 g5
              have G5 := G4.step nT nD h5 g5
              have en5 := en2.grow h4 g5
              cases b with
              | false =>
                show (if _ then _ else _)
                rw [if_neg Bool.false_ne_true]
                exact ⟨F5, w5, acc, G5, p3⟩
              | true =>
                show (if _ then _ else _)
                rw [if_pos rfl]
                have p3 : Post (gx X T) Wx σ F1 ad H1 P (fit acc ((fi1 ρ1 w5).bind fun es w2 => (lcL tgt1 tt1 fe (wipeE ρ1 vs1) es w2).bind fun ys w3 => (lc2L tgt tt fi1 tgt1 tt1 fe vs1 (wipeE ρ vs) (ds.drop (i + 1)) w3).bind fun zs w4 => .ok (ys ++ zs) w4)) := p3
                refine ⟨F5, ad, ρ1, w5, ⟨h5, en5⟩, ?_⟩
                cases ei : fi1 ρ1 w5 with
                | bad => simp only [ei] at p3; exact p3.elim
                | exc c w => simp only [ei] at p3; exact p3.elim
                | ok es w6 =>
                  simp only [ei] at p3
                  intro F6 H6 h6 g6 J1 hJ1
                  have G6 := G5.step nT nD h6 g6
                  have en6 := en5.grow h5 g6
                  refine ⟨fun j k H7 => ∃ F7 w7 acc, Gath (gx X T) ad F1 H1 L F7 H7 w7 acc ∧ (∀ a o, F6 a = some o → F7 a = some o) ∧ k = es.length - j ∧ j ≤ es.length ∧ Post (gx X T) Wx σ F1 ad H1 P (fit acc ((lcL tgt1 tt1 fe (wipeE ρ1 vs1) (es.drop j) w7).bind fun ys w3 => (lc2L tgt tt fi1 tgt1 tt1 fe vs1 (wipeE ρ vs) (ds.drop (i + 1)) w3).bind fun zs w4 => .ok (ys ++ zs) w4)),
                    ⟨es.length, F6, w6, acc, G6, fun _ _ e => e, rfl, Nat.zero_le _, p3⟩, fun j k H7 hW1 => ?_⟩
                  obtain ⟨F7, w7, acc, G7, m7, hk, hj, p7⟩ := hW1
                  obtain ⟨q1, q2, q3⟩ := hJ1 F7 H7 w7 G7.hp m7
                  by_cases hjt : j < es.length
                  · refine .inr ⟨q1 j hjt, fun H8 => ∃ F8 w8 acc, Gath (gx X T) ad F1 H1 L F8 H8 w8 acc ∧ (∀ a o, F6 a = some o → F8 a = some o) ∧ Post (gx X T) Wx σ F1 ad H1 P (fit acc ((lcL tgt1 tt1 fe (wipeE ρ1 vs1) (es.drop (j + 1)) w8).bind fun ys w3 => (lc2L tgt tt fi1 tgt1 tt1 fe vs1 (wipeE ρ vs) (ds.drop (i + 1)) w3).bind fun zs w4 => .ok (ys ++ zs) w4)), fun H8 z => ?_, fun x1 H8 y8 => ?_⟩
                    · obtain ⟨F8, w8, acc, z1, z2, z3⟩ := z
                      exact ⟨es.length - (j + 1), by omega, F8, w8, acc, z1, z2, rfl, hjt, z3⟩
                    · obtain ⟨F8, d1, e8, h8, g8, r8⟩ := q3 j x1 H8 hjt y8
                      rw [drop_cons e8] at p7
                      unfold lcL at p7
                      have G8 := G7.step nT nD h8 g8
                      have m8 : ∀ a o, F6 a = some o → F8 a = some o := fun a o e => g8.mono a o (m7 a o e)
                      have m48 : ∀ a o, F4 a = some o → F8 a = some o := fun a o e => m8 a o (g6.mono a o (g5.mono a o e))
                      have en8 : EnvOk (gx X T) F8 ad σ2 H8 ρ1 := en2.re own2 (a1.en.grow a1.hp G8.gr).wipe m48
                      cases et1 : tgt1 d1 (wipeE ρ1 vs1) with
                      | none => simp only [et1] at p7; exact p7.elim
                      | some ρ2 =>
                        simp only [et1] at p7
                        refine ⟨F8, ad, wipeE ρ1 vs1, w7, d1, ρ2, ⟨h8, en8.wipe⟩, r8, et1, fun σ3 en3 own3 os3 => ⟨?_, ?_⟩⟩
                        · have e := wipe_eq (σ := wipe σ2 vs1) (vs := vs1) os3.1 fun j hj => os3.2 j fun z => hj (hix1 j z)
                          rw [e]; exact wipe_wipe
                        · refine ⟨F8, ad, ρ2, w7, ⟨h8, en3⟩, ?_⟩
                          cases eb1 : tt1 ρ2 w7 with
                          | bad => simp only [eb1] at p7; exact p7.elim
                          | exc c w => simp only [eb1] at p7; exact p7.elim
                          | ok b1 w9 =>
                            simp only [eb1] at p7
                            intro F9 H9 h9 g9
                            have G9 := G8.step nT nD h9 g9
                            cases b1 with
                            | false =>
                              show (if _ then _ else _)
                              rw [if_neg Bool.false_ne_true]
                              exact ⟨F9, w9, acc, G9, fun a o e => g9.mono a o (m8 a o e), p7⟩
                            | true =>
                              show (if _ then _ else _)
                              rw [if_pos rfl]
                              have p7 : Post (gx X T) Wx σ F1 ad H1 P (fit acc (((fe ρ2 w9).bind fun y w2 => (lcL tgt1 tt1 fe (wipeE ρ1 vs1) (es.drop (j + 1)) w2).bind fun ys w3 => .ok (y :: ys) w3).bind fun ys w3 => (lc2L tgt tt fi1 tgt1 tt1 fe vs1 (wipeE ρ vs) (ds.drop (i + 1)) w3).bind fun zs w4 => .ok (ys ++ zs) w4)) := p7
                              refine ⟨F9, ad, ρ2, w9, ⟨h9, en3.grow h8 g9⟩, ?_⟩
                              cases ef : fe ρ2 w9 with
                              | bad => simp only [ef] at p7; exact p7.elim
                              | exc c w => simp only [ef] at p7; exact p7.elim
                              | ok yd w10 =>
                                simp only [ef] at p7
                                intro F10 H10 h10 g10 v rv
                                have G10 := G9.step nT nD h10 g10
                                have e : ∀ r : R (List D), (((R.ok yd w10 : R D).bind fun y w2 => (lcL tgt1 tt1 fe (wipeE ρ1 vs1) (es.drop (j + 1)) w2).bind fun ys w3 => .ok (y :: ys) w3).bind fun ys w3 => (lc2L tgt tt fi1 tgt1 tt1 fe vs1 (wipeE ρ vs) (ds.drop (i + 1)) w3).bind fun zs w4 => R.ok (ys ++ zs) w4) =
                                    ((lcL tgt1 tt1 fe (wipeE ρ1 vs1) (es.drop (j + 1)) w10).bind fun ys w3 => (lc2L tgt tt fi1 tgt1 tt1 fe vs1 (wipeE ρ vs) (ds.drop (i + 1)) w3).bind fun zs w4 => .ok (ys ++ zs) w4).bind fun ys w => .ok (yd :: ys) w := fun r => by
                                  show (((lcL tgt1 tt1 fe (wipeE ρ1 vs1) (es.drop (j + 1)) w10).bind fun ys w3 => .ok (yd :: ys) w3).bind fun ys w3 => (lc2L tgt tt fi1 tgt1 tt1 fe vs1 (wipeE ρ vs) (ds.drop (i + 1)) w3).bind fun zs w4 => R.ok (ys ++ zs) w4) = _
                                  cases lcL tgt1 tt1 fe (wipeE ρ1 vs1) (es.drop (j + 1)) w10 with
                                  | bad => rfl
                                  | exc c w => rfl
                                  | ok ys w3 =>
                                    show ((lc2L tgt tt fi1 tgt1 tt1 fe vs1 (wipeE ρ vs) (ds.drop (i + 1)) w3).bind fun zs w4 => R.ok (yd :: ys ++ zs) w4) = ((lc2L tgt tt fi1 tgt1 tt1 fe vs1 (wipeE ρ vs) (ds.drop (i + 1)) w3).bind fun zs w4 => R.ok (ys ++ zs) w4).bind fun ys w => .ok (yd :: ys) w
                                    cases lc2L tgt tt fi1 tgt1 tt1 fe vs1 (wipeE ρ vs) (ds.drop (i + 1)) w3 <;> rfl
                                rw [e (.bad), fit_cons] at p7
                                obtain ⟨us, z1, z2⟩ := G10.ls
                                have hl := fit_ok p7
                                rw [List.length_append] at hl
                                refine ⟨us, z1, by rw [z2.length]; simp at hl; omega, F10, w10, acc ++ [yd], G10.push nT nD hL z1 rv, fun a o e => g10.mono a o (g9.mono a o (m8 a o e)), p7⟩
                  · have e : j = es.length := by omega
                    subst e
                    rw [List.drop_length] at p7
                    refine .inl ⟨q2, F7, w7, acc, G7, ?_⟩
                    have e : ((lcL tgt1 tt1 fe (wipeE ρ1 vs1) [] w7).bind fun ys w3 => (lc2L tgt tt fi1 tgt1 tt1 fe vs1 (wipeE ρ vs) (ds.drop (i + 1)) w3).bind fun zs w4 => R.ok (ys ++ zs) w4) = lc2L tgt tt fi1 tgt1 tt1 fe vs1 (wipeE ρ vs) (ds.drop (i + 1)) w7 := by
                      show ((lc2L tgt tt fi1 tgt1 tt1 fe vs1 (wipeE ρ vs) (ds.drop (i + 1)) w7).bind fun zs w4 => R.ok ([] ++ zs) w4) = _
                      cases lc2L tgt tt fi1 tgt1 tt1 fe vs1 (wipeE ρ vs) (ds.drop (i + 1)) w7 <;> rfl
                    rw [e] at p7
                    exact p7
    · have e : i = ds.length := by omega
      subst e
      rw [List.drop_length] at p3
      have p3 : Post (gx X T) Wx σ F1 ad H1 P (fit acc (.ok [] w2)) := p3
      refine .inl ⟨k2, ?_⟩
      have hl := fit_ok p3
      have e : fit acc (.ok [] w2) = .ok acc w2 := by
        show R.calm (if (acc ++ []).length ≤ sizeLine then R.ok (acc ++ []) w2 else .bad) = _
        rw [List.append_nil, if_pos hl]
        rfl
      rw [e] at p3
      obtain ⟨us, z1, z2⟩ := G2.ls
      have := p3 F2 H' G2.hp G2.gr
      rw [← hP] at this
      exact this L us hH z1 G2.nF z2
theorem so_lc2 (hc : X.calm = true) (hN : X.N.Nodup) (hi : SI md (gx X T) Wx X tg iter fi) (ok : BlkOk X.N X.env.scope scope own) (hix : ∀ i ∈ ix, i ∈ own.map (·.2)) (hix1 : ∀ i ∈ ix1, i ∈ ix1) (hv : ∀ i ∈ ix1, i ∈ own.map (·.2))
    (hg : ∀ (s : Shared) (H : Hp) (C : Addr) (cl : List (Str × Addr)) (fp : List Addr), SG md (gx X T) (X.blk s H scope (compEnvC scope cl C X.env) fp) tg ix tgt)
    (ht : ∀ (s : Shared) (H : Hp) (C : Addr) (cl : List (Str × Addr)) (fp : List Addr), PTs (X.blk s H scope (compEnvC scope cl C X.env) fp) ifs (tT (gx X T) W0 tt))
    (hi1 : ∀ (s : Shared) (H : Hp) (C : Addr) (cl : List (Str × Addr)) (fp : List Addr), SI md1 (gx X T) W0 (X.blk s H scope (compEnvC scope cl C X.env) fp) tg1 iter1 fi1)
    (hg1 : ∀ (s : Shared) (H : Hp) (C : Addr) (cl : List (Str × Addr)) (fp : List Addr), SG md1 (gx X T) (X.blk s H scope (compEnvC scope cl C X.env) fp) tg1 ix1 tgt1)
    (ht1 : ∀ (s : Shared) (H : Hp) (C : Addr) (cl : List (Str × Addr)) (fp : List Addr), PTs (X.blk s H scope (compEnvC scope cl C X.env) fp) ifs1 (tT (gx X T) W0 tt1))
    (he : ∀ (s : Shared) (H : Hp) (C : Addr) (cl : List (Str × Addr)) (fp : List Addr), SE (gx X T) W0 (X.blk s H scope (compEnvC scope cl C X.env) fp) elt fe) (hs : ∀ x, foldedSetIterable iter X.env x = pure x := by intro _; rfl) (hs1 : ∀ env x, foldedSetIterable iter1 env x = pure x := by intro _ _; rfl) :
    SO (gx X T) Wx X (.ListComp elt [⟨tg, iter, ifs, 0⟩, ⟨tg1, iter1, ifs1, 0⟩] scope pos) (oLc2 fi tgt tt fi1 tgt1 tt1 fe (own.map (·.2)) ix1) :=
  PE.imp (pe_lc2 hc hN hi ok hv hg ht hi1 hg1 ht1 he hs hs1) fun σ H Q h => lc2_in hix hix1 h
theorem ss_setLc2 {i : Nat} {y : Str} {py : Pos} (hc : X.calm = true) (hN : X.N.Nodup) (hy : X.N[i]? = some y) (hyl : X.env.scope.names.lookup y = some .local)
    (hsw : swapsWith (.ListComp elt [⟨tg, iter, ifs, 0⟩, ⟨tg1, iter1, ifs1, 0⟩] scope pos) (some (.Name y py)) spos.line X.env = pure true) (hi : SI md (gx X T) Wx X tg iter fi) (ok : BlkOk X.N X.env.scope scope own) (hix : ∀ i ∈ ix, i ∈ own.map (·.2)) (hix1 : ∀ i ∈ ix1, i ∈ ix1) (hv : ∀ i ∈ ix1, i ∈ own.map (·.2))
    (hg : ∀ (s : Shared) (H : Hp) (C : Addr) (cl : List (Str × Addr)) (fp : List Addr), SG md (gx X T) (X.blk s H scope (compEnvC scope cl C X.env) fp) tg ix tgt)
    (ht : ∀ (s : Shared) (H : Hp) (C : Addr) (cl : List (Str × Addr)) (fp : List Addr), PTs (X.blk s H scope (compEnvC scope cl C X.env) fp) ifs (tT (gx X T) W0 tt))
    (hi1 : ∀ (s : Shared) (H : Hp) (C : Addr) (cl : List (Str × Addr)) (fp : List Addr), SI md1 (gx X T) W0 (X.blk s H scope (compEnvC scope cl C X.env) fp) tg1 iter1 fi1)
    (hg1 : ∀ (s : Shared) (H : Hp) (C : Addr) (cl : List (Str × Addr)) (fp : List Addr), SG md1 (gx X T) (X.blk s H scope (compEnvC scope cl C X.env) fp) tg1 ix1 tgt1)
    (ht1 : ∀ (s : Shared) (H : Hp) (C : Addr) (cl : List (Str × Addr)) (fp : List Addr), PTs (X.blk s H scope (compEnvC scope cl C X.env) fp) ifs1 (tT (gx X T) W0 tt1))
    (he : ∀ (s : Shared) (H : Hp) (C : Addr) (cl : List (Str × Addr)) (fp : List Addr), SE (gx X T) W0 (X.blk s H scope (compEnvC scope cl C X.env) fp) elt fe) (hs : ∀ x, foldedSetIterable iter X.env x = pure x := by intro _; rfl) (hs1 : ∀ env x, foldedSetIterable iter1 env x = pure x := by intro _ _; rfl) :
    SS (gx X T) Wx X (.Assign [.Name y py] (.ListComp elt [⟨tg, iter, ifs, 0⟩, ⟨tg1, iter1, ifs1, 0⟩] scope pos) spos) (sOwn (oLc2 fi tgt tt fi1 tgt1 tt1 fe (own.map (·.2)) ix1) i) :=
  PS.imp (ps_setLc2 hc hN hy hyl hsw hi ok hv hg ht hi1 hg1 ht1 he hs hs1) fun Dn σ H h => by
    have z := own_in h
    exact lc2_in hix hix1 z
end
end DL

set_option Elab.async false
set_option linter.all false
set_option maxRecDepth 100000
set_option maxHeartbeats 4000000
namespace DL
open PySem PySem.Spec PySem.SeqAt PySem.W L2 DG PyProof.Rows
open GxR (TabB TabG Tabbed)

/-! ### raise, and the except clause that tells a text by the error's class -/
/-- an own class of errors below ValueError -/
structure ExD (K : PySem.W.Frag) (mg : Str → Option Value) (x : Str) (C : Addr) (B newId initId : String) (bmB : List Value) : Prop where
  gm : mg x = some (.ref C)
  fc : ExcBaseFacts B newId initId bmB
  q : PySem.W.excIn K C bmB newId = true
  kp : PySem.W.keepIn K (.ref C) = true
  sb : PySem.W.subIn K (.ref C) (.type "BaseException") = some true
  ty : PySem.W.typeIn K (.ref C) = some (.type "type")
def sRaise (x : Str) : Sf := fun _ w => .exc x w
section
variable {X : Cx} {T : Addr → Prop} {Wx : WX} {x m : Str} {C : Addr} {B newId initId : String} {bmB : List Value} {p p2 pos pos2 : Pos} {j : Nat}
theorem ss_raise (e : ExD X.K X.mg x C B newId initId bmB) (hc : X.calm = true) (tk : L2N.Takes X Wx) (hg : Gl X x := by rfl) (hdb : (x == ("__debug__" : Str)) = false := by decide) :
    SS (gx X T) Wx X (.Raise (some (.Call (.Name x p) [.Constant (.str m) j p2] [] pos)) none pos2) (sRaise x) :=
  PS.imp (L2N.ps_raise hc tk (L2N.pmk_own e.fc e.q e.gm e.kp (raises_own e.sb e.ty) hg hdb)) fun Dn σ H ⟨F0, H0, F, ad, ρ, w, a0, p⟩ => by
    obtain ⟨C', e1, z⟩ := p
    have e1 : X.mg x = some (.ref C') := e1
    rw [e.gm] at e1
    cases e1
    exact z σ F H a0.hp a0.gr
end
/-- try: .. except c0 as e: return [s0, s1][int(isinstance(e, c1))]; only errors of the class c1 come, below c0 -/
def sTryIs (f : Sf) (c1 : Str) (s : Str) : Sf := fun ρ w => match f ρ w with
  | .exc c w => if c = c1 then .rt (.str s) w else .bad
  | r => r
section
variable {X : Cx} {T : Addr → Prop} {Wx : WX}
/-- the name of the error in the suite -/
theorem pe_exv {Y : Cx} {a : Addr} {i : Nat} {x : Str} {pos : Pos} (h : PE Y (.Name x pos) (tVar i)) (hi : i < Y.N.length) : PE Y (.Name x pos) (fun σ H Q => (i < σ.length → σ[i]? = some (some (.ref a))) ∧ Q (.ref a) H) :=
  ⟨fun pins s σ H Q I q => h.run pins s σ H Q I ⟨.ref a, q.1 (by rw [I.len]; exact hi), q.2⟩⟩
theorem ss_tryIs {x x1 n s0 s1 : Str} {i : Nat} {C0 C1 : Addr} {B newId initId : String} {bmB : List Value} {body : List Stmt} {fb : Sf} {np pos pos' p1 p2 p3 p4 p5 p6 p7 p8 p9 p10 p11 : Pos} {k1 k2 : Nat}
    (e1 : ExD X.K X.mg x1 C1 B newId initId bmB) (ec : ExcC X.K C1) (hk : PySem.W.kitOne X.K (.ref C1) (.ref C1) = some true) (hex : PySem.W.exmOne X.K (.ref C1) (.ref C0) = some true)
    (hs : X.stack = X.env :: X.outer) (hf : X.env.frame = some X.env.locals) (hN : X.N.Nodup) (hi : X.N[i]? = some n) (hln : X.env.kindOf n = some .local) (hc : Names X x (.ref C0)) (tk : L2N.Takes X Wx)
    (hgI : Gl X "isinstance") (hmI : X.mg "isinstance" = none) (hbI : bootBuiltins "isinstance" = some (.builtin "isinstance")) (hgi : Gl X "int") (hmi : X.mg "int" = none) (hbi : bootBuiltins "int" = some (.type "int")) (hg1 : Gl X x1) (hdn : (n == ("__debug__" : Str)) = false) (hdc : (n == ("__classdict__" : Str)) = false) (hd1 : (x1 == ("__debug__" : Str)) = false)
    (hb : ∀ (W : WX) (pn : List (Addr × Obj)) (xe : Value → Shared → Prop), L2N.Takes (X.tr pn xe) W → PassesOwn (model X.prog X.w) X.A X.env xe → SSs (gx X T) W (X.tr pn xe) body fb) :
    SS (gx X T) Wx X (.Try body [.ExceptHandler (some (.Name x np)) (some n) [.Return (some (.Subscript (.List [.Constant (.str s0) k1 p1, .Constant (.str s1) k2 p2] p3) (.Call (.Name "int" p4) [.Call (.Name "isinstance" p5) [.Name n p6, .Name x1 p7] [] p8] [] p9) p10)) p11] pos'] [] [] pos) (sTryIs fb x1 s1) := by
  have lt : i < X.N.length := (List.getElem?_eq_some_iff.mp hi).1
  refine PS.imp (L2N.ps_try_as (tb := fun W => tS (gx X T) W fb) (ts := fun a cls d => fun D σ H => cls = .ref C1 ∧ d = none ∧ (i < σ.length → σ[i]? = some (some (.ref a))) ∧ ∀ p, H p = none → D.rt (.str s1) (upd H p (.lst [.str s0, .str s1]))) (Wout := Wx) hs hf hN hi hln hc tk hb
    (fun a oe cls d pn hz hv => ?_)) fun Dn σ H ⟨F0, H0, F, ad, ρ, w, a0, p⟩ => ⟨F0, H0, F, ad, ρ, w, a0, ?_⟩
  · refine ⟨fun pins s σ H D I q => ?_⟩
    obtain ⟨rfl, rfl, hσ, q⟩ := q
    have ev : PE (X.suite a ((a, oe) :: pn)) (.Name n p6) (fun σ H Q => (i < σ.length → σ[i]? = some (some (.ref a))) ∧ Q (.ref a) H) := pe_exv (pe_var hi (.inl hln) hdn hdc) lt
    have h1 : PE (X.suite a ((a, oe) :: pn)) (.Call (.Name "isinstance" p5) [.Name n p6, .Name x1 p7] [] p8) _ := pe_callB (call_isE ec hz.zc hv) hgI hmI hbI (pa_cons ev (pa_cons (pe_glob hg1 e1.gm (v := .ref C1) rfl hd1) pa_nil rfl) rfl) (by decide) (by decide) rfl rfl
    have h2 : PE (X.suite a ((a, oe) :: pn)) (.Call (.Name "int" p4) [.Call (.Name "isinstance" p5) [.Name n p6, .Name x1 p7] [] p8] [] p9) _ := pe_callTy call_int1 hgi hmi hbi (pa_cons h1 pa_nil rfl) (by decide) (by decide) rfl rfl
    have h3 : PE (X.suite a ((a, oe) :: pn)) (.Subscript (.List [.Constant (.str s0) k1 p1, .Constant (.str s1) k2 p2] p3) (.Call (.Name "int" p4) [.Call (.Name "isinstance" p5) [.Name n p6, .Name x1 p7] [] p8] [] p9) p10) _ :=
      pe_ix ix_list (pe_lst (pa_cons pe_str (pa_cons pe_str pa_nil rfl) rfl)) h2 (fun _ _ => rfl)
    refine (pss_one (ps_ret h3)).run pins s σ H D I ?_
    refine ⟨by show 2 ≤ sizeLine; decide, fun p hp => ?_⟩
    refine ⟨hσ, .ref C1, .ref C1, true, rfl, fun u hu => hu, hk, .inr ⟨true, rfl, p, [.str s0, .str s1], 1, .str s1, rfl, rfl, SqL.of upd_same, rfl, q p hp⟩⟩
  · unfold sTryIs at p
    cases r : fb ρ w with
    | exc c w1 =>
      rw [r] at p
      have p5 : PostS (gx X T) Wx F0 H0 ad Dn (if c = x1 then .rt (.str s1) w1 else .bad) := p
      have hcx : c = x1 := by
        by_cases h : c = x1
        · exact h
        · rw [if_neg h] at p5; exact p5.elim
      rw [if_pos hcx] at p5
      refine ⟨C1, by rw [hcx]; exact e1.gm, fun σ' F' H' h' g' => ⟨true, hex, fun _ a ha => ⟨rfl, rfl, fun hl => ?_, fun q hq => ?_⟩, fun z => by cases z⟩⟩
      · rw [List.length_set] at hl
        exact List.getElem?_set_self hl
      · obtain ⟨h2, g2⟩ := h'.new (o := .lst [.str s0, .str s1]) hq
        exact p5 _ F' _ h2 (g'.then h' g2) (.str s1)
    | nx ρ1 w1 => rw [r] at p; exact p
    | rt d w1 => rw [r] at p; exact p
    | ro d w1 => rw [r] at p; exact p
    | bk ρ1 w1 => rw [r] at p; exact p
    | ct ρ1 w1 => rw [r] at p; exact p
    | bad => rw [r] at p; exact p.elim
end
end DL

set_option Elab.async false
set_option linter.all false
set_option maxRecDepth 100000
set_option maxHeartbeats 4000000
namespace DL
open PySem PySem.Spec PySem.SeqAt PySem.W L2 DG PyProof.Rows
open GxR (TabB TabG Tabbed)

/-! ### a, b = x, y -/
section
variable {X : Cx} {T : Addr → Prop} {Wx : WX} {a b c : Expr} {fs : Ev → Wd → R (List D)} {x y z : Str} {px py pz pt pos : Pos}
def sPar (i j : Nat) (fs : Ev → Wd → R (List D)) : Sf := fun ρ w => bindS (fs ρ w) fun ds w1 => match ds with
  | [d, e] => if i < ρ.length ∧ j < ρ.length then .nx ((ρ.set i (some (.v d))).set j (some (.v e))) w1 else .bad
  | _ => .bad
theorem OwnSub.refl' {σ : L2.St} {ρ : Ev} : OwnSub σ σ ρ ρ := fun _ _ e _ => ⟨e, rfl⟩
theorem ss_par {i j : Nat} {kt : Nat} {k2 : Nat} {pt2 : Pos} (hc : X.calm = true) (hN : X.N.Nodup) (hi : X.N[i]? = some x) (hj : X.N[j]? = some y) (hij : i ≠ j)
    (hx : X.env.scope.names.lookup x = some .local) (hy : X.env.scope.names.lookup y = some .local) (ha : SL (gx X T) Wx X [a, b] fs)
    (hw : swappedStores [.Tuple [.Name x px, .Name y py] kt pt] (.Tuple [a, b] k2 pt2) X.env = pure (some [x, y]))
    (hs : swapsWithSole [.Tuple [.Name x px, .Name y py] kt pt] (.Tuple [a, b] k2 pt2) pos.line X.env = pure false := by rfl) :
    SS (gx X T) Wx X (.Assign [.Tuple [.Name x px, .Name y py] kt pt] (.Tuple [a, b] k2 pt2) pos) (sPar i j fs) :=
  PS.imp (ps_par hc hN hi hj hij hx hy ha hw hs) fun Dn σ H ⟨F0, H0, F, ad, ρ, w, a0, p⟩ => ⟨F, ad, ρ, w, a0.at, (expr_post a0 p).imp fun ds w1 F1 H1 h1 g1 q vs r => by
    obtain ⟨a1, p1⟩ := q
    cases r with
    | nil => exact p1.elim
    | cons r1 r =>
      cases r with
      | nil => exact p1.elim
      | cons r2 r =>
        cases r with
        | cons _ _ => exact p1.elim
        | nil =>
          rename_i d _ e
          have p1 : PostS (gx X T) Wx F0 H0 ad Dn (if i < ρ.length ∧ j < ρ.length then .nx ((ρ.set i (some (.v _))).set j (some (.v _))) w1 else .bad) := p1
          split at p1
          · rename_i hl
            obtain ⟨e1, o1⟩ := a1.en.setV r1 hl.1
            obtain ⟨e2, o2⟩ := e1.setV r2 (by rw [List.length_set]; exact hl.2)
            exact ⟨_, _, rfl, p1 _ F1 H1 (a1.env e2 (o1.trans o2))⟩
          · exact p1.elim⟩
def sPar3 (i j l : Nat) (fs : Ev → Wd → R (List D)) : Sf := fun ρ w => bindS (fs ρ w) fun ds w1 => match ds with
  | [d, e, f] => if (i < ρ.length ∧ j < ρ.length) ∧ l < ρ.length then .nx (((ρ.set i (some (.v d))).set j (some (.v e))).set l (some (.v f))) w1 else .bad
  | _ => .bad
theorem ss_par3 {i j l : Nat} {kt : Nat} {k2 : Nat} {pt2 : Pos} (hc : X.calm = true) (hN : X.N.Nodup) (hi : X.N[i]? = some x) (hj : X.N[j]? = some y) (hl : X.N[l]? = some z) (hij : i ≠ j) (hil : i ≠ l) (hjl : j ≠ l)
    (hx : X.env.scope.names.lookup x = some .local) (hy : X.env.scope.names.lookup y = some .local) (hz : X.env.scope.names.lookup z = some .local) (ha : SL (gx X T) Wx X [a, b, c] fs)
    (hw : swappedStores [.Tuple [.Name x px, .Name y py, .Name z pz] kt pt] (.Tuple [a, b, c] k2 pt2) X.env = pure (some [x, y, z]))
    (hs : swapsWithSole [.Tuple [.Name x px, .Name y py, .Name z pz] kt pt] (.Tuple [a, b, c] k2 pt2) pos.line X.env = pure false := by rfl) :
    SS (gx X T) Wx X (.Assign [.Tuple [.Name x px, .Name y py, .Name z pz] kt pt] (.Tuple [a, b, c] k2 pt2) pos) (sPar3 i j l fs) :=
  PS.imp (ps_par3 hc hN hi hj hl hij hil hjl hx hy hz ha hw hs) fun Dn σ H ⟨F0, H0, F, ad, ρ, w, a0, p⟩ => ⟨F, ad, ρ, w, a0.at, (expr_post a0 p).imp fun ds w1 F1 H1 h1 g1 q vs r => by
    obtain ⟨a1, p1⟩ := q
    cases r with
    | nil => exact p1.elim
    | cons r1 r =>
      cases r with
      | nil => exact p1.elim
      | cons r2 r =>
        cases r with
        | nil => exact p1.elim
        | cons r3 r =>
          cases r with
          | cons _ _ => exact p1.elim
          | nil =>
            have p1 : PostS (gx X T) Wx F0 H0 ad Dn (if (i < ρ.length ∧ j < ρ.length) ∧ l < ρ.length then .nx (((ρ.set i (some (.v _))).set j (some (.v _))).set l (some (.v _))) w1 else .bad) := p1
            split at p1
            · rename_i hl
              obtain ⟨e1, o1⟩ := a1.en.setV r1 hl.1.1
              obtain ⟨e2, o2⟩ := e1.setV r2 (by rw [List.length_set]; exact hl.1.2)
              obtain ⟨e3, o3⟩ := e2.setV r3 (by rw [List.length_set, List.length_set]; exact hl.2)
              exact ⟨_, _, _, rfl, p1 _ F1 H1 (a1.env e3 ((o1.trans o2).trans o3))⟩
            · exact p1.elim⟩
end

/-! ### the law itself -/
/-- what is asked of the law's plain meaning: the draws come of the script, then the rest says True -/
def LawTrue (i N : Nat) (fo : Ev → Wd → R (List D)) (rest : Sf) (ns : List Int) : Prop :=
  ∃ ds w1 w2, fo (ent 1 N [.sc ns]) [] = .ok ds w1 ∧ rest ((ent 1 N [.sc ns]).set i (some .dr)) ds = .rt (.bool true) w2
def spLaw (G : Gx) (Φ : List Int → Prop) : Sp := fun vs H Q _ => ∃ a ns, vs = [.ref a] ∧ SqL G.K H a (ns.map V.int) ∧ (∀ b, G.T b → TabG H b) ∧ Φ ns ∧ ∀ H', Q (.bl true) H'
section
variable {P : Program} {w : World} {K : PySem.W.Frag} {mg : Str → Option Value} {base : Heap} {T : Addr → Prop} {k : Nat}
theorem fn_law {st st1 : Stmt} {sts : List Stmt} {f : Addr} {fd : FuncData} {N : List Str} {fo : Ev → Wd → R (List D)} {rest : Sf} {i : Nat} (D0 : Df K mg "law" st ["script"] f fd) (S : FnScope N ["script"] (defScope st)) (hi : i < N.length) (hN : 0 < N.length) (h0 : i ≠ 0)
    (hst : defBody st = st1 :: sts)
    (h1 : ∀ (cdv : Value) (A : Around) (outer : List Env) (s : Shared) (H : Hp) (E : XK), fd.code = cdv → Room k (A.deeper (envOfC "law" (defScope st) s.heap.objs.size f cdv)) →
      PS (cxOf (L2N.CX P w) P w K mg base N "law" (defScope st) f cdv A outer s H E) st1 (tAsg (tO ⟨K, mg, T⟩ (fun cls d _ H => E cls d H) fo) (gName i)))
    (h2 : ∀ (cdv : Value) (A : Around) (outer : List Env) (s : Shared) (H : Hp) (E : XK), fd.code = cdv → Room k (A.deeper (envOfC "law" (defScope st) s.heap.objs.size f cdv)) →
      SSs ⟨K, mg, T⟩ (fun cls d _ H => E cls d H) (cxOf (L2N.CX P w) P w K mg base N "law" (defScope st) f cdv A outer s H E) sts rest) :
    FnOk P w K mg base (L2N.CX P w) (k + 1) f fd ["script"] (spLaw ⟨K, mg, T⟩ (LawTrue i N.length fo rest)) := by
  obtain ⟨oc, od, kV, doc, pm, an, cdv, ct, osl, rfl, lk, hcd⟩ := D0.fn.ex
  refine fn_of lk hcd S (fun vs H Q E ⟨a, ns, e, _⟩ => by rw [e]; rfl) fun A outer s H vs Q E hr ⟨a, ns, e, hq, ht, ⟨ds, w1, w2, eo, er⟩, hQ⟩ => ?_
  refine ⟨tSeq _ _, by rw [show defBody st = st1 :: sts from hst]; exact pss_cons (h1 cdv A outer s H E rfl hr) (h2 cdv A outer s H E rfl hr), ?_⟩
  subst e
  -- what is frozen: the script
  obtain ⟨F, hF, hsF⟩ : ∃ F : Hp, HeapOk ⟨K, mg, T⟩ F none H [] ∧ SqL K F a (ns.map V.int) := by
    rcases hq with hq | hq
    · refine ⟨fun b => if b = a then H a else none, ⟨fun b o q => ?_, fun b q hb => ?_, (fun b _ z => nomatch z), ht, (fun b z => nomatch z)⟩, ?_⟩
      · by_cases hb : b = a
        · rw [if_pos hb] at q; rw [hb]; exact q
        · rw [if_neg hb] at q; cases q
      · by_cases e : b = a
        · subst e
          obtain ⟨ps, z, _⟩ := ht b hb
          rcases hq with hq | ⟨o, hq⟩ <;> (rw [z] at hq; cases hq)
        · rw [if_neg e] at q; exact q rfl
      · rcases hq with hq | ⟨o, hq⟩
        · exact .inl (.inl (by show (if a = a then H a else none) = _; rw [if_pos rfl]; exact hq))
        · exact .inl (.inr ⟨o, by show (if a = a then H a else none) = _; rw [if_pos rfl]; exact hq⟩)
    · exact ⟨fun _ => none, ⟨(fun b o q => nomatch q), (fun b q => absurd rfl q), (fun b q => absurd rfl q), ht, (fun b z => nomatch z)⟩, .inr hq⟩
  have hA : Args ⟨K, mg, T⟩ F none [.ref a] [.sc ns] := .cons ⟨a, rfl, hsF⟩ .nil
  have en := env_start (H := H) (N := N) hA
  refine ⟨F, none, ent 1 N.length [.sc ns], [], ⟨hF, en⟩, ?_⟩
  rw [eo]
  intro F1 H1 hp1 g1 b us hn hb hfb r
  show tS ⟨K, mg, T⟩ _ rest _ ((L2.start N [.ref a]).set i (some (.ref b))) H1
  have en1 := en.grow hF g1
  have el : (ent 1 N.length [.sc ns]).length = N.length := by
    unfold ent
    simp
    omega
  have hi' : i < (ent 1 N.length [.sc ns]).length := by rw [el]; exact hi
  have hσ : i < (L2.start N [.ref a]).length := by rw [← en.len]; exact hi'
  have key : ∀ (j : Nat) t, ((ent 1 N.length [.sc ns]).set i (some .dr))[j]? = some (some t) → (j = i ∧ t = .dr) ∨ (j = 0 ∧ t = .sc ns) := fun j t e => by
    by_cases q : i = j
    · subst q
      rw [List.getElem?_set_self hi'] at e
      cases e
      exact .inl ⟨rfl, rfl⟩
    · rw [List.getElem?_set_ne q] at e
      unfold ent at e
      cases j with
      | zero => cases e; exact .inr ⟨rfl, rfl⟩
      | succ j =>
        rw [List.getElem?_append_right (by simp), List.getElem?_replicate] at e
        split at e <;> cases e
  refine ⟨F1, H1, F1, some b, (ent 1 N.length [.sc ns]).set i (some .dr), ds, ⟨⟨hp1.sub, hp1.noT, fun c q z => ?_, hp1.tab, fun c q => ?_⟩, ⟨by rw [List.length_set, List.length_set]; exact en.len, fun j t e => ?_, fun j l t u v ne e1 e2 o1 o2 e3 => ?_⟩, Grow.refl, fun j t c e o _ => ?_⟩, ?_⟩
  · cases z; exact q hfb
  · cases q; exact ⟨us, hb, r⟩
  · rcases key j t e with ⟨rfl, rfl⟩ | ⟨rfl, rfl⟩
    · exact ⟨.ref b, List.getElem?_set_self hσ, b, rfl, rfl⟩
    · refine ⟨.ref a, ?_, a, rfl, sqL_mono g1.mono hsF⟩
      rw [List.getElem?_set_ne h0]
      rfl
  · rcases key j t e1 with ⟨_, rfl⟩ | ⟨_, rfl⟩ <;> cases o1
  · rcases key j t e with ⟨_, rfl⟩ | ⟨_, rfl⟩ <;> cases o
  · rw [er]
    intro v F2 H2 _ _ rv
    cases rv
    exact hQ H2
end
/-- the tables of all defs of the text are empty at the head -/
def AllTabs (q : Program) (mg : Str → Option Value) (h : Heap) : Prop := ∀ d ∈ recsOf q, ∃ a o fd c Q, mg d.name = some (.ref a) ∧ h.get? a = some o ∧ o.data = .func fd ∧ fd.code = .ref c ∧ h.IsCode c Q #[] ∧ h.TableAt c Q #[]
theorem walk_all {l : PySem.W.OpenLaw} {n k : Nat} {q : Program} {loose : List Str} {XP : (Str → Option Value) → Heap → Prop} {YP : World → Heap → Prop} {d : DefRec} {K : Params → PySem.W.Frag} {x : Str}
    (hn : l.most = some n) (hn2 : n ≤ sizeLine) (hdf : d.params.defaults = []) (hr : Room k callerA) (hY : ∀ (w : World) (h : Heap), YP w h → (K w.params).In h)
    (F : ∀ (w : World) (mg : Str → Option Value) (fa : Addr) (h : Heap), YP w h → (K w.params).In h → h.Ns mainGlobals mg → mg d.name = some (.ref fa) → AllTabs q mg h → LamX.LawAtS l w (K w.params) (L2N.CX l.prog w) k n x mg fa h) :
    PySem.W.WalkO q loose XP YP l.row.toRowW d [] (fun f vs => PySem.call f vs) := by
  refine Att.attach_callB hn hdf fun w s₀ s₁ mg mb fa o pm cd doc a vs ns G Y ho hd hcd hmg hobj hints hlen hbits hg => ?_
  have KX := hY w _ Y
  obtain ⟨fd, cs, sp, hT, nT, C, hb, hsp, hF⟩ := F w mg fa _ Y KX G.T.g hmg G.T.tab
  refine LamX.law_callTs KX G.T.g G.T.b G.T.builtins G.T.nolimit hg hT nT C G.T.bmain hobj hints (Nat.le_trans hlen hn2) hr hF hb (fun H hH hS => hsp H a ns hlen hbits hH hS) fun H e s' h => ?_
  obtain ⟨_, _, _, _, _, _, _, _, _, _, _, _, z⟩ := h
  exact z
end DL

set_option Elab.async false
set_option linter.all false
set_option maxRecDepth 100000
set_option maxHeartbeats 4000000
namespace DL
open PySem PySem.Spec PySem.SeqAt PySem.W L2 DG PyProof.Rows
open GxR (TabB TabG Tabbed)
section
variable {X : Cx} {T : Addr → Prop} {Wx : WX} {a : Expr} {fa : Ef} {x : Str} {pos : Pos} {k : Nat}
theorem hu_r (hr : Room k X.A) : X.A.units + 100 < cLine := by have := hr.un; omega
def dNeg : D → Option D
  | .int i => some (.int (-i))
  | _ => none
def eNeg (fa : Ef) : Ef := fun ρ w => (fa ρ w).bind fun d w1 => R.of w1 (dNeg d)
theorem se_neg (ha : SB (gx X T) Wx X a fa) : SE (gx X T) Wx X (.UnaryOp .USub a pos) (eNeg fa) :=
  PE.imp (pe_un un_neg ha) fun σ H Q ⟨F, ad, ρ, w, a0, p⟩ => un_in a0 p fun F1 H1 w1 x dx a1 _ rx p1 => by
    cases dx with
    | int i => exact ⟨i, rx.int, p1 F1 H1 a1.hp Grow.refl _ (.int _)⟩
    | _ => exact p1.elim
/-- a number of the module -/
theorem se_gint {i : Int} (hm : ∃ t, X.mg x = some (.int i t)) (hg : Gl X x := by rfl) (hd : (x == ("__debug__" : Str)) = false := by decide) : SE (gx X T) Wx X (.Name x pos) (eC (.int i)) :=
  se_glob (v := .int i) hg hm.choose_spec ⟨_, rfl⟩ (fun _ => .int i) hd
end
/-- a def with its code's table -/
structure Dt (K : PySem.W.Frag) (mg : Str → Option Value) (base : Heap) (T : Addr → Prop) (x : Str) (st : Stmt) (ps : List Str) (f : Addr) (fd : FuncData) (c Q : Addr) : Prop where
  d : Df K mg x st ps f fd
  cd : fd.code = .ref c
  tb : TabB base mg c Q
  tq : T Q
end DL

set_option Elab.async false
set_option linter.all false
set_option maxRecDepth 100000
set_option maxHeartbeats 4000000
namespace DL
open PySem PySem.Spec PySem.SeqAt PySem.W L2 DG PyProof.Rows
open GxR (TabB TabG Tabbed)

/-! ### the script's slices -/
section
variable {X : Cx} {T : Addr → Prop} {Wx : WX} {a b c o e f : Expr} {es : List Expr} {fa fb fc fo : Ef} {fs : Ev → Wd → R (List D)} {pos pos' apos cpos p1 p2 p3 p pos2 tpos : Pos} {x y z : Str}
def eScCut (i : Nat) (fl fh : Ev → Wd → R (Option Int)) : Ef := fun ρ w => match ρ[i]? with
  | some (some (.sc ns)) => (fl ρ w).bind fun lo w1 => (fh ρ w1).bind fun hi w2 => .ok (.list (cut (ns.map .int) lo hi)) w2
  | _ => .bad
theorem repInts {K : PySem.W.Frag} {F : Hp} : ∀ ns : List Int, RepL K F (ns.map V.int) (ns.map .int)
  | [] => .nil
  | n :: ns => .cons (.int n) (repInts ns)
theorem se_scCut {i : Nat} {lo hi : Option Expr} {fl fh : Ev → Wd → R (Option Int)} (hv : PE X a (tVar i)) (hl : PO X lo (tP (gx X T) Wx fl)) (hh : PO X hi (tP (gx X T) Wx fh)) : SE (gx X T) Wx X (.Subscript a (.Slice lo hi none p2) pos) (eScCut i fl fh) :=
  PE.imp (pe_slice sl_list hv hl hh) fun σ H Q ⟨F, ad, ρ, w, a0, p⟩ => by
    unfold eScCut at p
    split at p
    case h_2 => exact p.elim
    rename_i ns e0
    obtain ⟨v, h1, a, rfl, h2⟩ := a0.en.sl i _ e0
    refine ⟨_, h1, F, ad, ρ, w, a0, (p.bind a0.hp).imp fun lo w1 F1 H1 h1 g1 p1 => ⟨F1, ad, ρ, w1, a0.grow h1 g1, (p1.bind h1).imp fun hi w2 F2 H2 h3 g2 p2 => ?_⟩⟩
    exact ⟨a, _, rfl, sqL_mono h3.sub (sqL_mono g2.mono (sqL_mono g1.mono h2)), finL h3 (fun v F' H' h g r => p2 F' H' h g v r) ((repInts ns).cut lo hi)⟩

/-! ### the draws, read into names, written by place -/
def gLst (n : Nat) (t : TGs) : TG := fun v σ H Q => ∃ a xs, v = .ref a ∧ H a = some (.lst xs) ∧ xs.length = n ∧ t xs σ H Q
theorem pg_lst {k : Nat} {t : TGs} {n : Nat} (hc : X.calm = true) (h : PGs X es t)
    (hn : (assignEach es X.env).length = n := by rfl) (hst : (assignEach es X.env).findIdx? (·.1) = none := by rfl) : PG X (.Tuple es k pos) (gLst n t) := by
  refine ⟨fun pins s σ H v u Q I r hw => ?_⟩
  obtain ⟨a, xs, e1, hq, hl, hw⟩ := hw
  subst e1
  cases r
  obtain ⟨its, rv, p, hz⟩ := I.list (SqL.of (K := X.K) hq)
  rw [assign_Tuple]
  refine wpAny_bind (wpAny_standAt ?_)
  unfold unpack
  rw [hn, hst]
  have hs : n = its.toArray.size := by rw [← hl, List.size_toArray, rv.length]
  rw [hs]
  refine wpAny_bind (wpAny_holding (PySem.W.kun_itemsOf (I.ok.hd hc) p.isList fun h' hx => ?_))
  have I1 : Inv X pins σ H { s with heap := h' } := I.kept (t' := s.toks) fun b o e => hx b o (Nat.ne_of_lt (Heap.lt_size e)) e
  exact h.run pins _ σ H xs _ Q I1 (by simpa using rv) hw
def sDrUnp (i n : Nat) (gs : Tgs) : Sf := fun ρ w => match ρ[i]? with
  | some (some .dr) => if w.length = n then ofO w (gs w ρ) else .bad
  | _ => .bad
theorem ss_drUnp {i k n : Nat} {gs : Tgs} {ix : List Nat} (hc : X.calm = true) (hv : PE X a (tVar i)) (hg : SGs (gx X T) X es ix gs) (hn : (assignEach es X.env).length = n := by rfl) (hst : (assignEach es X.env).findIdx? (·.1) = none := by rfl)
    (hs : swapsWithSole [.Tuple es k tpos] a pos.line X.env = pure false := by rfl) (hw : swappedStores [.Tuple es k tpos] a X.env = pure none := by rfl)
    (h1 : (assignEach [.Tuple es k tpos] X.env).map (·.2) = [assign (.Tuple es k tpos) X.env] := by rfl) : SS (gx X T) Wx X (.Assign [.Tuple es k tpos] a pos) (sDrUnp i n gs) :=
  PS.imp (ps_asg hv (pg_lst hc hg hn hst) hs hw h1) fun Dn σ H ⟨F0, H0, F, ad, ρ, w, a0, p⟩ => by
    unfold sDrUnp at p
    split at p
    case h_2 => exact p.elim
    rename_i e0
    split at p
    case isFalse => exact p.elim
    rename_i hl
    obtain ⟨v, h1, a, ea, rfl⟩ := a0.en.sl i _ e0
    obtain ⟨vs, h2, h3⟩ := a0.hp.dr a ea
    cases e1 : gs w ρ with
    | none => rw [e1] at p; exact p.elim
    | some ρ' =>
      rw [e1] at p
      exact ⟨_, h1, a, vs, rfl, h2, by rw [h3.length]; exact hl, F, ad, ρ, w, w, ρ', a0.at, h3, e1, fun σ' en o _ => p σ' F H (a0.env en o)⟩
/-- draws[k] = e -/
def sDrSet (i : Nat) (fk fv : Ef) : Sf := fun ρ w => bindS (fv ρ w) fun d w1 => match ρ[i]? with
  | some (some .dr) => bindS (fk ρ w1) fun dk w2 => match dk with
    | .int k => match ixN w2.length k with
      | some j => .nx ρ (w2.set j d)
      | none => .bad
    | _ => .bad
  | _ => .bad
theorem ss_drSet {i : Nat} (hv : PE X o (tVar i)) (hk : SE (gx X T) Wx X b fb) (he : SE (gx X T) Wx X e fa)
    (ha : ∀ v, assign (.Subscript o b pos') X.env v = (do
      let ov ← holding [v] (eval o X.env)
      let iv ← holding [v, ov] (eval b X.env)
      standAt pos'
      holding [v, ov, iv] (setItem ov iv v)
      release [v, ov, iv] []) := by intro _; rfl)
    (hs : swapsWithSole [.Subscript o b pos'] e pos.line X.env = pure false := by rfl) (hw : swappedStores [.Subscript o b pos'] e X.env = pure none := by rfl)
    (h1 : (assignEach [.Subscript o b pos'] X.env).map (·.2) = [assign (.Subscript o b pos') X.env] := by rfl) : SS (gx X T) Wx X (.Assign [.Subscript o b pos'] e pos) (sDrSet i fb fa) :=
  PS.imp (ps_asg he (pg_sub hv hk set_list ha) hs hw h1) fun Dn σ H ⟨F0, H0, F, ad, ρ, w, a0, p⟩ => exprD_in a0 p fun F1 H1 w1 y dy a1 r p1 => by
    split at p1
    case h_2 => exact p1.elim
    rename_i e0
    obtain ⟨v, h1, a, ea, rfl⟩ := a1.en.sl i _ e0
    refine ⟨_, h1, F1, ad, ρ, w1, a1.at, (expr_post a1 p1).imp fun dz w2 F2 H2 hp2 g2 qq z r2 => ?_⟩
    obtain ⟨a2, p2⟩ := qq
    cases dz with
    | int k =>
      cases r2
      cases ej : ixN w2.length k with
      | none => simp only [ej] at p2; exact p2.elim
      | some j =>
        simp only [ej] at p2
        obtain ⟨vs, h2, h3⟩ := a2.hp.dr a ea
        have hy : Rep X.K F2 y dy := Rep.mono g2.mono r
        refine ⟨a, vs, k, j, rfl, rfl, h2, by rw [h3.length]; exact ej, p2 σ F2 _ ?_⟩
        refine ⟨⟨fun c o q => ?_, a2.hp.noT, a2.hp.noD, fun c q => ?_, fun c q => ?_⟩, ⟨a2.en.len, fun j t ej => ?_, a2.en.dist⟩, ⟨a2.gr.mono, fun c o q n1 n2 => ?_, a2.gr.nf⟩, a2.fr⟩
        · rw [upd_ne fun z => by subst z; exact a2.hp.noD c (by rw [q]; exact fun z => by cases z) ea]; exact a2.hp.sub c o q
        · obtain ⟨ps, z1, z2⟩ := a2.hp.tab c q
          exact ⟨ps, by rw [upd_ne fun z => by subst z; rw [h2] at z1; cases z1]; exact z1, z2⟩
        · rw [ea] at q
          cases q
          exact ⟨_, upd_same, h3.set j hy⟩
        · obtain ⟨v, x1, x2⟩ := a2.en.sl j t ej
          refine ⟨v, x1, ?_⟩
          cases t with
          | v d => exact x2
          | dr => exact x2
          | sc ns => exact x2
          | ol ds =>
            obtain ⟨b, us, z, x3, x4, x5, x6⟩ := x2
            exact ⟨b, us, z, x3, x4, by rw [upd_ne fun y => x4 (by rw [ea, y])]; exact x5, x6⟩
          | od kvs =>
            obtain ⟨b, us, z, x3, x4, x5, x6⟩ := x2
            exact ⟨b, us, z, x3, x4, by rw [upd_ne fun y => x4 (by rw [ea, y])]; exact x5, x6⟩
        · rw [upd_ne fun z => n2 (by rw [z]; exact ea)]
          exact a2.gr.keep c o q n1 n2
    | _ => exact p2.elim
/-- x[k] = e, x an own list -/
def sOset (i : Nat) (fk fv : Ef) : Sf := fun ρ w => bindS (fv ρ w) fun d w1 => match ρ[i]? with
  | some (some (.ol ds)) => bindS (fk ρ w1) fun dk w2 => match dk with
    | .int k => match ixN ds.length k with
      | some j => .nx (ρ.set i (some (.ol (ds.set j d)))) w2
      | none => .bad
    | _ => .bad
  | _ => .bad
theorem ss_oset {i : Nat} (hv : PE X o (tVar i)) (hk : SE (gx X T) Wx X b fb) (he : SE (gx X T) Wx X e fa)
    (ha : ∀ v, assign (.Subscript o b pos') X.env v = (do
      let ov ← holding [v] (eval o X.env)
      let iv ← holding [v, ov] (eval b X.env)
      standAt pos'
      holding [v, ov, iv] (setItem ov iv v)
      release [v, ov, iv] []) := by intro _; rfl)
    (hs : swapsWithSole [.Subscript o b pos'] e pos.line X.env = pure false := by rfl) (hw : swappedStores [.Subscript o b pos'] e X.env = pure none := by rfl)
    (h1 : (assignEach [.Subscript o b pos'] X.env).map (·.2) = [assign (.Subscript o b pos') X.env] := by rfl) : SS (gx X T) Wx X (.Assign [.Subscript o b pos'] e pos) (sOset i fb fa) :=
  PS.imp (ps_asg he (pg_sub hv hk set_list ha) hs hw h1) fun Dn σ H ⟨F0, H0, F, ad, ρ, w, a0, p⟩ => exprD_in a0 p fun F1 H1 w1 y dy a1 r p1 => by
    split at p1
    case h_2 => exact p1.elim
    rename_i ds e0
    obtain ⟨v, h1, a, vs, rfl, h3, h4, h5, h6⟩ := a1.en.sl i _ e0
    refine ⟨_, h1, F1, ad, ρ, w1, a1.at, (expr_post a1 p1).imp fun dz w2 F2 H2 hp2 g2 qq z r2 => ?_⟩
    obtain ⟨a2, p2⟩ := qq
    cases dz with
    | int k =>
      cases r2
      cases ej : ixN ds.length k with
      | none => simp only [ej] at p2; exact p2.elim
      | some j =>
        simp only [ej] at p2
        obtain ⟨v2, g1, a', vs', z', g3, g4, g5, g6⟩ := a2.en.sl i _ e0
        rw [h1] at g1
        cases g1
        cases z'
        have hy : Rep X.K F2 y dy := Rep.mono g2.mono r
        exact ⟨a, vs', k, j, rfl, rfl, g5, by rw [g6.length]; exact ej, p2 σ F2 _ (a2.put e0 rfl h1 (notT a2.hp g5 fun ps z => by cases z) g3 g4 rfl ⟨a, _, rfl, g3, g4, upd_same, g6.set j hy⟩)⟩
    | _ => exact p2.elim

/-! ### gcd, sum, count -/
theorem se_callFn {id : String} {g : List D → Option D} (hc : CallR X (.builtin id) (rCD X T g)) (hg : Gl X x) (hm : X.mg x = some (.builtin id)) (ha : SLb (gx X T) Wx X (e :: es) fs) (hdb : (x == ("__debug__" : Str)) = false := by decide)
    (he : starEach (e :: es) X.env = (false, eval e X.env) :: starEach es X.env := by rfl) (hpl : (backTo pos (starEach es X.env)).any (·.1) = false := by rfl) : SE (gx X T) Wx X (.Call (.Name x p) (e :: es) [] pos) (eCall g fs) :=
  PE.imp (pe_callBfun hc hg hm ha hdb he hpl) fun σ H Q h => rCD_in h
def intsOf : List D → Option (List Int)
  | [] => some []
  | .int i :: ds => (intsOf ds).map (i :: ·)
  | _ :: _ => none
theorem intsOf_rep {K : PySem.W.Frag} {F : Hp} : ∀ {vs : List V} {ds : List D} {ns : List Int}, RepL K F vs ds → intsOf ds = some ns → vs = ns.map V.int
  | _, _, _, .nil, e => by cases e; rfl
  | _, _, _, .cons (d := d) (ds := ds) r t, e => by
    cases d with
    | int i =>
      cases q : intsOf ds with
      | none => simp [intsOf, q] at e
      | some ms =>
        simp [intsOf, q] at e
        subst e
        cases r
        rw [intsOf_rep t q]; rfl
    | _ => simp [intsOf] at e
def gSum : List D → Option D
  | [.list ds] => (intsOf ds).map fun ns => .int ns.sum
  | _ => none
theorem cd_sum (hc : X.calm = true) : CallR X (.builtin "sum") (rCD X T gSum) := by
  intro pins s σ H xs us Q I r ⟨F, ad, w, ds, d, hp, rb, e, q⟩
  unfold gSum at e
  split at e
  · rename_i es
    cases rb with
    | cons b1 t =>
      cases t
      obtain ⟨a, vs, rfl, ha, ra⟩ := b1.list hp
      cases z : intsOf es with
      | none => rw [z] at e; cases e
      | some ns =>
        rw [z] at e
        cases e
        obtain rfl := intsOf_rep ra z
        exact cr_sum hc pins s σ H _ us Q I r ⟨a, ns, rfl, SqL.of ha, fin0 hp q (.int _)⟩
  · cases e
end
end DL

set_option Elab.async false
set_option linter.all false
set_option maxRecDepth 100000
set_option maxHeartbeats 4000000
namespace DL
open PySem PySem.Spec PySem.SeqAt PySem.W L2 DG PyProof.Rows
open GxR (TabB TabG Tabbed)

/-! ### a new dict as an expression; frozen -/
def tDn (G : Gx) (Wx : WX) (f : Ev → Wd → R (List (D × D))) : TE := fun σ H Q => ∃ F ad ρ w, At G F ad σ H ρ w ∧
  Post G Wx σ F ad H (fun kds _ F' H' => ∀ a o, H a = none → H' a = some o → F' a = none → DK1 G.K F' o kds → Q (.ref a) H') (f ρ w)
abbrev SD (G : Gx) (Wx : WX) (X : Cx) (e : Expr) (f : Ev → Wd → R (List (D × D))) : Prop := PE X e (tDn G Wx f)
theorem HeapOk.lockD {G : Gx} {F H : Hp} {ad : Option Addr} {w : Wd} {a : Addr} {u u' : HO} (h : HeapOk G F ad H w) (ha : H a = some u) (nt : ∀ ps, u ≠ .tbl ps) (nF : F a = none) (nd : ad ≠ some a) : HeapOk G (upd F a u') ad (upd H a u') w := by
  have nT : ¬ G.T a := notT h ha nt
  have mono : ∀ b o', F b = some o' → upd F a u' b = some o' := fun b o' q => by rw [upd_ne (ne_of_none q nF)]; exact q
  refine ⟨fun b o q => ?_, fun b q => ?_, fun b q => ?_, fun b q => ?_, fun b q => ?_⟩
  · by_cases hb : b = a
    · subst hb; rw [upd_same] at q ⊢; exact q
    · rw [upd_ne hb] at q ⊢; exact h.sub b o q
  · by_cases hb : b = a
    · subst hb; exact nT
    · rw [upd_ne hb] at q; exact h.noT b q
  · by_cases hb : b = a
    · subst hb; exact nd
    · rw [upd_ne hb] at q; exact h.noD b q
  · obtain ⟨ps, h1, h2⟩ := h.tab b q
    exact ⟨ps, by rw [upd_ne fun z => by subst z; exact nT q]; exact h1, h2⟩
  · obtain ⟨us, h1, h2⟩ := h.dr b q
    exact ⟨us, by rw [upd_ne fun z => by subst z; exact nd q]; exact h1, h2.mono mono⟩
section
variable {X : Cx} {T : Addr → Prop} {Wx : WX} {a b c o e f : Expr} {es : List Expr} {fa fb fc fo : Ef} {fs : Ev → Wd → R (List D)} {pos pos' apos cpos p1 p2 p3 p pos2 tpos : Pos} {x y z : Str}
def eFzD (fd : Ev → Wd → R (List (D × D))) : Ef := fun ρ w => (fd ρ w).bind fun kds w1 => .ok (.dict kds) w1
theorem se_ofD {fd : Ev → Wd → R (List (D × D))} (h : SD (gx X T) Wx X e fd) : SE (gx X T) Wx X e (eFzD fd) := ⟨fun pins s σ H Q I ⟨F, ad, ρ, w, a0, p⟩ => by
  refine thn (h.run pins s σ H (fun v H1 => ∃ a o kds F1 w1, v = .ref a ∧ H a = none ∧ H1 a = some o ∧ F1 a = none ∧ DK1 X.K F1 o kds ∧ HeapOk (gx X T) F1 ad H1 w1 ∧ Grow (gx X T) ad F H F1 H1 ∧
    ∀ F2 H2, HeapOk (gx X T) F2 ad H2 w1 → Grow (gx X T) ad F H F2 H2 → ∀ v, Rep X.K F2 v (.dict kds) → Q v H2) I ⟨F, ad, ρ, w, a0, ?_⟩) fun u s1 ⟨v, H1, I1, r1, q1⟩ => ?_
  · unfold eFzD at p
    cases q : fd ρ w with
    | bad => rw [q] at p; exact p
    | exc c w1 => rw [q] at p; exact p
    | ok kds w1 =>
      rw [q] at p
      exact fun F1 H1 h1 g1 a o ha e n r => ⟨a, o, kds, F1, w1, rfl, ha, e, n, r, h1, g1, fun F2 H2 h2 g2 v rv => p F2 H2 h2 g2 v rv⟩
  · obtain ⟨a, o, kds, F1, w1, rfl, ha, h5, h3, h6, h1, g1, q⟩ := q1
    obtain ⟨ob, I2⟩ := I1.lock h5 h6.mut
    have hd : ad ≠ some a := fun z => a0.hp.dN a z ha
    have m : ∀ b o', F1 b = some o' → upd F1 a (.frz ob o) b = some o' := fun b o' q => by rw [upd_ne (ne_of_none q h3)]; exact q
    have nn : ∀ b u, H b = some u → b ≠ a := fun b u z y => by subst y; rw [ha] at z; cases z
    refine ⟨.ref a, _, I2, r1, q (upd F1 a (.frz ob o)) _ (h1.lockD h5 h6.notbl h3 hd) ⟨fun b o' z => m b o' (g1.mono b o' z), fun b u z n1 n2 => ?_, fun b z1 z2 => ?_⟩ _ ?_⟩
    · rw [upd_ne (nn b u z)]; exact g1.keep b u z n1 n2
    · rw [upd_ne fun y => by subst y; exact z1 ha]; exact g1.nf b z1 z2
    · obtain ⟨kk, rfl, pr⟩ := h6
      obtain ⟨es, r, rfl⟩ := pr.zip
      exact .dK upd_same (r.mono m)⟩
/-! ### dict(pairs) -/
def pairsOf : List D → Option (List (Key × D))
  | [] => some []
  | .tuple [k, v] :: ds => match dkey k, pairsOf ds with
    | some k, some r => some ((k, v) :: r)
    | _, _ => none
  | _ :: _ => none
def mergeD (kds : List (D × D)) (more : List (Key × D)) : List (D × D) := more.foldl (fun acc kv => putD acc kv.1 kv.2) kds
inductive PRp (K : PySem.W.Frag) (F : Hp) : List (Key × V) → List (Key × D) → Prop
  | nil : PRp K F [] []
  | cons {k : Key} {v : V} {d : D} {ks : List (Key × V)} {kds : List (Key × D)} : Rep K F v d → PRp K F ks kds → PRp K F ((k, v) :: ks) ((k, d) :: kds)
theorem DKp.merge {K : PySem.W.Frag} {F : Hp} : ∀ {more : List (Key × V)} {mds : List (Key × D)} {kvs : List (Key × V)} {kds : List (D × D)}, PRp K F more mds → DKp K F kvs kds → DKp K F (mergeK kvs more) (mergeD kds mds)
  | _, _, _, _, .nil, h => h
  | _, _, kvs, kds, .cons (k := k) (v := v) (d := d) (ks := ks) (kds := ms) r t, h => by
    have z := DKp.merge (kvs := putK kvs k v) (kds := putD kds k d) t (h.put k r)
    exact z
theorem pairs_rep {K : PySem.W.Frag} {F H : Hp} (m : ∀ a o, F a = some o → H a = some o) : ∀ {vs : List V} {ds : List D} {kds : List (Key × D)}, RepL K F vs ds → pairsOf ds = some kds →
    ∃ ps kvs, vs = ps.map V.ref ∧ Paired (fun p kv => SqT K H p [kV kv.1, kv.2]) ps kvs ∧ PRp K F kvs kds
  | _, _, _, .nil, e => by cases e; exact ⟨[], [], rfl, .nil, .nil⟩
  | _, _, _, .cons (d := d) (ds := ds) r t, e => by
    unfold pairsOf at e
    split at e
    · rename_i z; cases z
    · rename_i k v ds' z
      cases z
      split at e
      · rename_i k' r' e1 e2
        cases e
        obtain ⟨ps, kvs, h1, h2, h3⟩ := pairs_rep m t e2
        cases r with
        | tup q rr =>
          cases rr with
          | cons ra rr =>
            cases rr with
            | cons rb rr =>
              cases rr
              obtain rfl := key_rep ra e1
              exact ⟨_ :: ps, (k', _) :: kvs, by rw [h1]; rfl, .cons (sqT_mono m q.t) h2, .cons rb h3⟩
      · cases e
    · cases e
def dDict (fa : Ef) : Ev → Wd → R (List (D × D)) := fun ρ w => (fa ρ w).bind fun d w1 => match d with
  | .list ds => (match pairsOf ds with
    | some kds => .ok (mergeD [] kds) w1
    | none => .bad)
  | _ => .bad
theorem sd_dict (hc : X.calm = true) (hg : Gl X "dict") (hm : X.mg "dict" = none) (hb : bootBuiltins "dict" = some (.type "dict")) (ha : SE (gx X T) Wx X a fa) (he : starEach [a] X.env = (false, eval a X.env) :: starEach [] X.env := by rfl) (hpl : (backTo pos (starEach [] X.env)).any (·.1) = false := by rfl) :
    SD (gx X T) Wx X (.Call (.Name "dict" p) [a] [] pos) (dDict fa) :=
  PE.imp (pe_callTy (call_dictP hc) hg hm hb (pa_cons ha pa_nil he) (by decide) (by decide) he hpl) fun σ H Q ⟨F, ad, ρ, w, a0, p⟩ => unE_in a0 p fun F1 H1 w1 x dx a1 g1 rx p1 => by
    cases dx with
    | list ds =>
      cases e : pairsOf ds with
      | none => simp only [e] at p1; exact p1.elim
      | some kds =>
        simp only [e] at p1
        cases rx with
        | lst h r =>
          obtain ⟨ps, kvs, rfl, h2, h3⟩ := pairs_rep a1.hp.sub r e
          refine ⟨_, ps, kvs, rfl, SqL.of (a1.hp.sub _ _ h), h2, fun q hq => ?_⟩
          obtain ⟨h4, g4⟩ := a1.hp.new (o := .dK (mergeK [] kvs)) hq
          obtain ⟨n1, n2⟩ := fresh_of a0.hp a1.hp g1 hq
          exact p1 _ _ h4 g4 q _ n1 upd_same n2 ⟨_, rfl, DKp.merge h3 .nil⟩
    | _ => exact p1.elim
/-! ### items -/
def iIms (fa : Ef) : Ev → Wd → R (List D) := fun ρ w => (fa ρ w).bind fun d w1 => match d with
  | .dict kds => .ok (pairsD kds) w1
  | _ => .bad
theorem si_items {elts : List Expr} {kk : Nat} (ha : SE (gx X T) Wx X o fa) (hbase : attributeBase o "items" X.env (eval o X.env) = eval o X.env := by rfl) (hline : (apos.endLine == cpos.line) = true := by rfl) :
    SI true (gx X T) Wx X (.Tuple elts kk tpos) (.Call (.Attribute o "items" apos) [] [] cpos) (iIms fa) :=
  PI.imp (pi_items ha hbase hline) fun σ H Q ⟨F, ad, ρ, w, a0, p⟩ => unE_in a0 p fun F1 H1 w1 x dx a1 _ rx p1 => by
    cases rx with
    | dK e r => exact ⟨_, _, _, rfl, a1.hp.sub _ _ e, p1 F1 H1 a1.hp Grow.refl _ (it_items e (DKp.of r))⟩
    | _ => exact p1.elim
/-! ### target = x.pop() -/
def sPop (i : Nat) (g : Tg) : Sf := fun ρ w => match ρ[i]? with
  | some (some (.ol ds)) => match ds[ds.length - 1]? with
    | some d => ofO w (g d (ρ.set i (some (.ol ds.dropLast))))
    | none => .bad
  | _ => .bad
theorem ss_pop {tg : Expr} {i : Nat} {g : Tg} {ix : List Nat} (hv : PE X o (tVar i)) (hg : SG false (gx X T) X tg ix g) (hbase : attributeBase o "pop" X.env (eval o X.env) = eval o X.env := by rfl) (hline : (apos.endLine == cpos.line) = true := by rfl)
    (hs : swapsWithSole [tg] (.Call (.Attribute o "pop" apos) [] [] cpos) pos.line X.env = pure false := by rfl) (hw : swappedStores [tg] (.Call (.Attribute o "pop" apos) [] [] cpos) X.env = pure none := by rfl)
    (h1 : (assignEach [tg] X.env).map (·.2) = [assign tg X.env] := by rfl) : SS (gx X T) Wx X (.Assign [tg] (.Call (.Attribute o "pop" apos) [] [] cpos) pos) (sPop i g) :=
  PS.imp (ps_asg (pe_bm0 PySem.F.plainAttrs_list PySem.F.slot_list_pop PySem.F.type_list_pop mt_pop hv hbase hline) hg hs hw h1) fun Dn σ H ⟨F0, H0, F, ad, ρ, w, a0, p⟩ => by
    unfold sPop at p
    split at p
    case h_2 => exact p.elim
    rename_i ds e0
    split at p
    case h_2 => exact p.elim
    rename_i d ed
    obtain ⟨v, h1, a, vs, rfl, h3, h4, h5, h6⟩ := a0.en.sl i _ e0
    obtain ⟨y, hy, ry⟩ := h6.get _ ed
    rw [← h6.length] at hy
    refine ⟨_, h1, .inl ⟨rfl, vs, SqL.of h5⟩, a, vs, y, rfl, rfl, h5, hy, ?_⟩
    have a1 := a0.put (o' := .lst vs.dropLast) (s' := .ol ds.dropLast) e0 rfl h1 (notT a0.hp h5 fun ps z => by cases z) h3 h4 rfl ⟨a, vs.dropLast, rfl, h3, h4, upd_same, h6.dropLast⟩
    cases e1 : g d (ρ.set i (some (.ol ds.dropLast))) with
    | none => rw [e1] at p; exact p.elim
    | some ρ' =>
      rw [e1] at p
      exact ⟨F, ad, _, w, d, ρ', a1.at, ry, e1, fun σ' en o _ => p σ' F _ (a1.env en o)⟩
end
end DL

set_option Elab.async false
set_option linter.all false
set_option maxRecDepth 100000
set_option maxHeartbeats 4000000
namespace DL
open PySem PySem.Spec PySem.SeqAt PySem.W L2 DG PyProof.Rows DT
open GxR (TabB TabG Tabbed)
section
variable {X : Cx} {T : Addr → Prop} {Wx : WX} {a b c o e f : Expr} {es : List Expr} {fa fb fc fo : Ef} {fs : Ev → Wd → R (List D)} {pos pos' apos cpos p1 p2 p3 p pos2 tpos : Pos} {x y z : Str}
/-! ### x.count(y), x a list or a tuple -/
def dCnt : D → D → Option D
  | .list xs, d => if inOk d xs = true then some (.int ((xs.countP fun y => PyData.eqv y d : Nat) : Int)) else none
  | .tuple xs, d => if inOk d xs = true then some (.int ((xs.countP fun y => PyData.eqv y d : Nat) : Int)) else none
  | _, _ => none
def isSeq : D → Bool
  | .list _ => true
  | .tuple _ => true
  | _ => false
def eCnt (fo fa : Ef) : Ef := fun ρ w => (fo ρ w).bind fun d w1 => if isSeq d = true then (fa ρ w1).bind fun b w2 => R.of w2 (dCnt d b) else .bad
theorem readsL {pins : List (Addr × Obj)} {σ : L2.St} {H F : Hp} {s : Shared} {ad : Option Addr} {w : Wd} {vs : List V} {ds : List D} {its : List Value} (I : Inv X pins σ H s) (hp : HeapOk (gx X T) F ad H w) (r : RepL X.K F vs ds) (c : PyData.plainAll ds = true) (rv : Vals vs its) : ∃ as, ReadsAll s.heap its ds as :=
  Dp.readsAll I ds vs its (r.dp hp.sub c) rv
theorem sqD_up {K : PySem.W.Frag} {F H : Hp} (m : ∀ a o, F a = some o → H a = some o) {a : Addr} {xs : List V} (q : SqD K F a xs) : SqD K H a xs := sqD_mono m q
theorem se_count (hu : X.A.units + 100 < cLine) (ho : SB (gx X T) Wx X o fo) (ha : SB (gx X T) Wx X e fa)
    (hbase : attributeBase o "count" X.env (eval o X.env) = eval o X.env := by rfl)
    (hfew : ((backTo cpos (starEach [e] X.env)).all (fun x => !x.1) && (backToKw cpos (keywordEach [] X.env)).all (fun x => x.1.isSome)
      && decide ([e].length + ([] : List Keyword).length + (if ([] : List Keyword).isEmpty then 0 else 1) < 30)) = true := by rfl)
    (hline : (apos.endLine == cpos.line) = true := by rfl) (hs : starEach [e] X.env = (false, eval e X.env) :: starEach [] X.env := by rfl) (hplain : (backTo cpos (starEach [] X.env)).any (·.1) = false := by rfl) :
    SE (gx X T) Wx X (.Call (.Attribute o "count" apos) [e] [] cpos) (eCnt fo fa) := ⟨fun pins s σ H Q I ⟨F, ad, ρ, w, a0, p⟩ => by
  have hA : PA X [e] _ := pa_cons ha pa_nil hs
  refine wpAny_Call_method_late hbase hfew hline rfl (thn (ho.run pins s σ H (fun x H1 => ∃ F1 w1 dx, At (gx X T) F1 ad σ H1 ρ w1 ∧ RepB (gx X T) F1 ad H1 x dx ∧
    Post (gx X T) Wx σ F1 ad H1 (fun d _ F' H' => ∀ v, Rep X.K F' v d → Q v H') (if isSeq dx = true then (fa ρ w1).bind fun b w2 => R.of w2 (dCnt dx b) else .bad)) I (un_in a0 p fun F1 H1 w1 x dx a1 _ rx p1 => ⟨F1, w1, dx, a1, rx, p1⟩)) fun v s1 ⟨x, H1, I1, r1, F1, w1, dx, a1, rx, p1⟩ => ?_)
  have sq : isSeq dx = true := by
    by_cases h : isSeq dx = true
    · exact h
    · rw [if_neg h] at p1; exact p1.elim
  rw [if_pos sq] at p1
  have args : ∀ {id : String} {Q1 : Value → Shared → Prop}, (∀ u s2 y H2 F2 w2 dy, Inv X pins σ H2 s2 → RelV y u → At (gx X T) F2 ad σ H2 ρ w2 → Grow (gx X T) ad F1 H1 F2 H2 → RepB (gx X T) F2 ad H2 y dy →
      Post (gx X T) Wx σ F2 ad H2 (fun d _ F' H' => ∀ v, Rep X.K F' v d → Q v H') (R.of w2 (dCnt dx dy)) → wpAny (model X.prog X.w) X.A (call (.builtin id) [v, u]) Q1 X.xe s2) →
      wpAny (model X.prog X.w) X.A (callWith cpos (.builtin id) [v] (backTo cpos (starEach [e] X.env)) []) Q1 X.xe s1 := fun {id Q1} k => by
    have hR := hA.run cpos pins s1 σ H1 (fun vs H2 => ∃ y F2 w2 dy, vs = [y] ∧ At (gx X T) F2 ad σ H2 ρ w2 ∧ Grow (gx X T) ad F1 H1 F2 H2 ∧ RepB (gx X T) F2 ad H2 y dy ∧ Post (gx X T) Wx σ F2 ad H2 (fun d _ F' H' => ∀ v, Rep X.K F' v d → Q v H') (R.of w2 (dCnt dx dy))) I1
      (un_in a1 p1 fun F2 H2 w2 y dy a2 g2 ry p2 => ⟨y, F2, w2, dy, rfl, a2, g2, ry, p2⟩)
    rw [hs] at hR ⊢
    refine Calls.callWith_builtin (by show (false || (backTo cpos (starEach [] X.env)).any (·.1)) = false; rw [hplain] <;> rfl) (Calls.evalArgs_plain ?_)
    refine thn hR fun us s2 ⟨vs, H2, I2, r2, y, F2, w2, dy, ev, a2, g2, ry, p2⟩ => ?_
    subst ev
    obtain ⟨u, eu, ru⟩ := vals1 r2
    subst eu
    exact k u s2 y H2 F2 w2 dy I2 ru a2 g2 ry p2
  cases dx with
  | list ds =>
    obtain ⟨q, vs, rfl, hq, rq⟩ := rx.list a1.hp
    obtain ⟨h1, h2⟩ := tyV_is I1 r1 (T := "list") (.inl ⟨rfl, vs, SqL.of hq⟩)
    refine ⟨"list", _, PySem.F.plainAttrs_list, PySem.F.slot_list_count, PySem.F.type_list_count, h1, h2, args fun u s2 y H2 F2 w2 dy I2 ru a2 g2 ry p2 => ?_⟩
    cases r1
    by_cases hi : inOk dy ds = true
    · obtain ⟨c1, c2, c3⟩ := inOk_out hi
      obtain ⟨q', vs2, e2, hq2, rq2⟩ := (rx.grow a1.hp g2).list a2.hp
      cases e2
      obtain ⟨its, rv, pl, hz⟩ := I2.list (SqL.of (K := X.K) hq2)
      obtain ⟨as, rs⟩ := readsL I2 a2.hp rq2 c2 rv
      obtain ⟨bs, rr⟩ := ry.reads I2 a2.hp c1 ru
      have e3 : dCnt (.list ds) dy = some (.int ((ds.countP fun y => PyData.eqv y dy : Nat) : Int)) := if_pos hi
      rw [e3] at p2
      exact count_list_data pl.isList rs rr c2 c1 (by omega) ⟨.int _, H2, I2.tok _, ⟨_, rfl⟩, p2 F2 H2 a2.hp Grow.refl _ (.int _)⟩
    · have e3 : dCnt (.list ds) dy = none := if_neg hi
      rw [e3] at p2; exact p2.elim
  | tuple ds =>
    cases rx.tupR with
    | @tup q vs _ hq rq =>
      obtain ⟨ob, g1, g3, g4⟩ := (sqD_up a1.hp.sub hq).obj I1
      cases r1
      refine ⟨"tuple", _, PySem.F.plainAttrs_tuple, PySem.F.slot_tuple_count, PySem.F.type_tuple_count, ⟨ob, g1, g4⟩, fun z ez => by cases ez; exact ⟨ob, g1, g3⟩, args fun u s2 y H2 F2 w2 dy I2 ru a2 g2 ry p2 => ?_⟩
      by_cases hi : inOk dy ds = true
      · obtain ⟨c1, c2, c3⟩ := inOk_out hi
        have rq2 := rq.mono g2.mono
        obtain ⟨its, rv, pl, hz⟩ := I2.tuple (sqD_up (fun b ob eb => a2.hp.sub b ob (g2.mono b ob eb)) hq).t
        obtain ⟨as, rs⟩ := readsL I2 a2.hp rq2 c2 rv
        obtain ⟨bs, rr⟩ := ry.reads I2 a2.hp c1 ru
        have e3 : dCnt (.tuple ds) dy = some (.int ((ds.countP fun y => PyData.eqv y dy : Nat) : Int)) := if_pos hi
        rw [e3] at p2
        exact count_tuple_data pl rs rr c2 c1 (by omega) ⟨.int _, H2, I2.tok _, ⟨_, rfl⟩, p2 F2 H2 a2.hp Grow.refl _ (.int _)⟩
      · have e3 : dCnt (.tuple ds) dy = none := if_neg hi
        rw [e3] at p2; exact p2.elim
  | _ => cases sq⟩
end
end DL

set_option Elab.async false
set_option linter.all false
set_option maxRecDepth 100000
set_option maxHeartbeats 4000000
/-! DH1: a list comprehension while an exception is handled -/
namespace DL
open PySem PySem.Spec PySem.SeqAt PySem.W L2 DG PyProof.Rows L2H HotX
section
variable {prog : Program} {w : World} {A : Around} {E : Value → Shared → Prop} {s : Shared}
theorem next_end_hot {it l x1 : Addr} {i : Nat} {items} {Q : Option Value → Shared → Prop} (hot : HotAt A x1 s.heap) (hit : s.heap.IsListIter it l i) (hl : s.heap.IsList l items) (hx : items[i]? = none) (hne : x1 ≠ it)
    (hQ : ∀ h', Heap.ExtBut it s.heap h' → Q none { s with heap := h' }) : wpAny (model prog w) A (pyNext (.ref it)) Q E s := by
  obtain ⟨o, ho, hc, hd⟩ := id hit
  obtain ⟨ol, hol, _, nl, hdl⟩ := hl
  obtain ⟨hh, o1, vs1, h1, d1, c1⟩ := hot
  unfold pyNext
  refine wpAny_bind (wpAny_attempt (wpAny_callSpecial?_slot (name := Str.ofString "__next__") hit.typeIs slot_listiter_next
    (wpAny_call_entry slot_listiter_next hit.typeIs entry_listiter_next ?_ (args_listiter_next _))))
  show wpAny _ _ (field (.ref it) 0 >>= _) _ _ s
  refine wpAny_bind (wpAny_field ho hd (x := .ref l) rfl ?_)
  show wpAny _ _ (if (Value.ref l == Value.none) = true then _ else _) _ _ s
  rw [if_neg (show ¬ ((Value.ref l == Value.none) = true) from Bool.false_ne_true)]
  show wpAny _ _ (field (.ref it) 1 >>= _) _ _ s
  refine wpAny_bind (wpAny_field ho hd (x := .int i 0) rfl ?_)
  show wpAny _ _ (seqItems? (.ref l) >>= _) _ _ s
  refine wpAny_bind (wpAny_seqItems hol hdl ?_)
  simp only [Int.toNat_natCast, hx]
  refine wpAny_bind (wpAny_rule (wpAny_bind (wpAny_setField ho hd (by simp) ?_)))
  show wpAny _ _ (newExc (.type "StopIteration") [] >>= _) _ _ _
  refine wpAny_bind ?_
  simp only [newExc, newTuple]
  refine wpAny_bind (wpAny_newObj_type ?_ (by size_fits))
  refine wpAny_bind (m := firstArgMember _ _) (wpAny_of_eq (a := Value.none) (by first | rfl | (simp only [firstArgMember]; rfl)) ?_)
  refine wpAny_newObj_type ?_ (by size_fits)
  refine raiseNew_hot (x1 := x1) ⟨hh, o1, vs1, Heap.get?_push_of_some _ (Heap.get?_push_of_some _ ?_), d1, c1⟩ ?_ (Heap.get?_push_size _ rfl) rfl (by first | (simp; done) | (simp; omega) | (simp only [Array.size_append]; simp; omega)) ?_
  · rw [Heap.get?_update_other _ _ hne.symm]; exact h1
  · have h2 : (s.heap.update it (Obj.mapFields fun vs => vs.setIfInBounds 0 Value.none)).get? x1 = some o1 := by rw [Heap.get?_update_other _ _ hne.symm]; exact h1
    exact Nat.ne_of_lt (Heap.lt_size (Heap.get?_push_of_some _ h2))
  refine wpAny_bind (wpAny_isInstance (T := "StopIteration") (b := true) ⟨_, Heap.get?_update_self _ (Heap.get?_push_size _ rfl) rfl, rfl⟩ isSubtype_stop ?_)
  refine wpAny_pure (hQ _ fun b o hb e => ?_)
  have h3 : (s.heap.update it (Obj.mapFields fun vs => vs.setIfInBounds 0 Value.none)).get? b = some o := by rw [Heap.get?_update_other _ _ (Ne.symm hb)]; exact e
  rw [Heap.get?_update_other _ _ (Nat.ne_of_gt (Heap.lt_size (Heap.get?_push_of_some _ h3)))]
  exact Heap.get?_push_of_some _ (Heap.get?_push_of_some _ h3)
end
section
variable {X : Cx}
/-- a list comprehension over a list, while an exception is handled -/
theorem pe_lcH {l elt tg : Expr} {ifs : List Expr} {scope : Scope} {own : List (Str × Nat)} {pos : Pos} {tl : TE} {g : TG} {tt : TT} {te : TE} (hc : HotC X) (hN : X.N.Nodup) (hl : PE X l tl) (ok : BlkOk X.N X.env.scope scope own)
    (hg : ∀ (s : Shared) (H : Hp) (C : Addr) (cl : List (Str × Addr)) (fp : List Addr), PG (X.blk s H scope (compEnvC scope cl C X.env) fp) tg g) (ht : ∀ (s : Shared) (H : Hp) (C : Addr) (cl : List (Str × Addr)) (fp : List Addr), PTs (X.blk s H scope (compEnvC scope cl C X.env) fp) ifs tt)
    (he : ∀ (s : Shared) (H : Hp) (C : Addr) (cl : List (Str × Addr)) (fp : List Addr), PE (X.blk s H scope (compEnvC scope cl C X.env) fp) elt te) (hs : ∀ x, foldedSetIterable l X.env x = pure x := by intro _; rfl) :
    PE X (.ListComp elt [⟨tg, l, ifs, 0⟩] scope pos) (tLc (iList X.K tl) g tt te (own.map (·.2))) := by
  refine ⟨fun pins s σ H Q I h => ?_⟩
  rw [eval_ListComp]
  obtain ⟨p, ⟨hh, vs0, hp1, hp2⟩, hp⟩ := id hc
  have hfree : ∀ y ∈ scope.names, y.2 = .free → ∃ c, X.env.cells.lookup y.1 = some c := fun y hy e => by
    rcases ok.free y hy e with k | k
    · exact I.ok.has _ (.inl k)
    · exact I.ok.has _ (.inr k)
  refine wpAny_comprehension_free (use := none) rfl hs (closure_ok hfree) ok.kind (fun y hy e => by rw [ok.uniq y hy, e]) (thn (hl.run pins s σ H _ I h) fun xv s1 hx => ?_)
  obtain ⟨x, H2, I1, r1, a, e, ⟨xs0, hq0⟩, q⟩ := hx
  subst e
  cases r1
  obtain ⟨its0, rv0, pl0, hz0⟩ := I1.list hq0
  have key : wpAny (model X.prog X.w) X.A (pyIter (.ref a)) (fun v s2 => ∃ it, v = .ref it ∧ Inv X pins σ H2 s2 ∧ s2.heap.IsListIter it a 0 ∧ FpOk X pins H2 it) X.xe s1 :=
    wpAny_pyIter_list pl0.isList ⟨s1.heap.objs.size, rfl, I1.kept (t' := s1.toks) fun b o e => Heap.get?_push_of_some _ e, ⟨_, Heap.get?_push_size _ rfl, rfl, rfl⟩, I1.fpOk (Nat.le_refl _) (I1.hok.fresh (Nat.le_refl _))⟩
  refine thn key fun itv s2 ⟨it, e, I2, st2, f2⟩ => ?_
  subst e
  refine wpAny_newObj_type (newEnv_comp ?_) (by show 0 ≤ sizeLine; decide)
  generalize hD : s2.heap.objs.size = D
  have hDn : H2 D = none := I2.hok.fresh (Nat.le_of_eq hD)
  obtain ⟨W, ⟨m0, w0⟩, turn⟩ := q D hDn
  generalize hs3 : ({ s2 with heap := s2.heap.push { cls := .type "list", data := .seq ([] : List Value).toArray } } : Shared) = s3
  have I3 : Inv X pins σ (upd H2 D (.lst [])) s3 := by
    rw [← hs3]
    refine I2.laid (t' := s2.toks) (fun b o e => Heap.get?_push_of_some _ e) (Nat.le_of_eq hD) ⟨Nat.zero_le _, [], 0, .nil, ?_⟩
    rw [← hD]
    exact Heap.get?_push_size _ rfl
  have h3 : s3.heap = s2.heap.push { cls := .type "list", data := .seq ([] : List Value).toArray } := by rw [← hs3]
  have tobj : ∀ {i : Nat} {h : Heap}, h.IsListIter it a i → ∃ o, h.get? it = some o ∧ ∀ v, o.data ≠ .cell v := fun {i h} st => by
    obtain ⟨o, e, c, d⟩ := st
    exact ⟨o, e, fun v z => by rw [d] at z; cases z⟩
  have tkeep : ∀ {i : Nat} {h h' : Heap}, h.IsListIter it a i → (∀ o, h.get? it = some o → h'.get? it = some o) → h'.IsListIter it a i := fun {i h h'} st k => st.at k
  have sz : it < s2.heap.objs.size := by
    obtain ⟨o, e, _⟩ := tobj st2
    exact Heap.lt_size e
  have f3 : ∀ b ∈ [it], FpOk X pins (upd H2 D (.lst [])) b ∧ b < s3.heap.objs.size := fun b hb => by
    rw [List.mem_singleton] at hb
    subst hb
    refine ⟨⟨?_, f2.2⟩, by rw [h3, Heap.size_push]; exact Nat.lt_succ_of_lt sz⟩
    rw [upd_ne (by rw [← hD]; exact Nat.ne_of_lt sz)]
    exact f2.1
  have st3 : s3.heap.IsListIter it a 0 := tkeep st2 fun o e => by rw [h3]; exact Heap.get?_push_of_some _ e
  have I4 := block_start I3 ok hN f3
  have pg := hg s3 (upd H2 D (.lst [])) s3.heap.objs.size (cellsFrom (s3.heap.objs.size + 1) scope.names (cloFrom X.env.cells scope.names [])) [it]
  have pt := ht s3 (upd H2 D (.lst [])) s3.heap.objs.size (cellsFrom (s3.heap.objs.size + 1) scope.names (cloFrom X.env.cells scope.names [])) [it]
  have pe := he s3 (upd H2 D (.lst [])) s3.heap.objs.size (cellsFrom (s3.heap.objs.size + 1) scope.names (cloFrom X.env.cells scope.names [])) [it]
  show codeAny _ _ (.compStart (.ListComp elt [⟨tg, l, ifs, 0⟩] scope pos) 0 (.ref it) (.ref D) (compEnvC scope (cellsFrom (s3.heap.objs.size + 1) scope.names (cloFrom X.env.cells scope.names [])) s3.heap.objs.size X.env)) (compPost (model X.prog X.w) X.A X.xe none _ (.ref D) s3.heap.objs.size) { s3 with heap := pushCells (s3.heap.push { cls := .type "dict", data := .dict #[] }) scope.names }
  have nfp : (upd H2 D (.lst [])) it = none := (f3 it (by simp)).1.1
  have P3 := I3.pin p (List.mem_append_left _ hp)
  have pst : p.1 ∉ frs X.stack := fun hm => (List.mem_cons.mp (I3.stkSub p.1 hm)).elim P3.2.2.1 P3.2.2.2.1
  have pit : p.1 ≠ it := f2.2.2.2.2.2 p (List.mem_append_left _ hp)
  generalize hce : compEnvC scope (cellsFrom (s3.heap.objs.size + 1) scope.names (cloFrom X.env.cells scope.names [])) s3.heap.objs.size X.env = ce at I4 pg pt pe ⊢
  have cL : ce.locals = s3.heap.objs.size := by subst hce; rfl
  generalize hH3 : upd H2 D (.lst []) = H3 at I3 I4 pg pt pe w0 nfp f3 P3
  generalize hs4 : ({ s3 with heap := pushCells (s3.heap.push { cls := .type "dict", data := .dict #[] }) scope.names } : Shared) = s4 at I4 ⊢
  have k34 : ∀ b o, s3.heap.get? b = some o → s4.heap.get? b = some o := fun b o e => by rw [← hs4]; exact pushCells_keeps _ _ _ _ (Heap.get?_push_of_some _ e)
  have st4 : s4.heap.IsListIter it a 0 := tkeep st3 fun o e => k34 _ _ e
  have I4p : Inv (X.blk s3 H3 scope ce [it]) [p] (wipe σ (own.map (·.2))) H3 s4 := I4.pins_of fun z hz => by
    rw [List.mem_singleton] at hz
    subst hz
    refine ⟨k34 _ _ P3.1, P3.2.1, ?_, pst, P3.2.2.2.2⟩
    show z.1 ≠ ce.locals
    rw [cL]
    exact Nat.ne_of_lt (Heap.lt_size P3.1)
  have stat : ∀ {σ' : L2.St} {H' : Hp} {s' : Shared}, Inv (X.blk s3 H3 scope ce [it]) [p] σ' H' s' → H' it = none → FpOk (X.blk s3 H3 scope ce [it]) [p] H' it := fun {σ' H' s'} I' hn =>
    ⟨hn, (I'.ok.exf it (by simp)).1, I'.ok.exfs it (by simp), .inl (by simp), fun x c e => (I'.ok.exf it (by simp)).2 x c e, fun z hz => by
      have hz : z ∈ ([] : List (Addr × Obj)) ++ [p] := hz
      rw [List.nil_append, List.mem_singleton] at hz
      rw [hz]; exact pit⟩
  have loop : codeAny (model X.prog X.w) X.A (.compLoop (.ListComp elt [⟨tg, l, ifs, 0⟩] scope pos) 0 (.ref it) (.ref D) ce) (compPost (model X.prog X.w) X.A X.xe none (EP X pins σ Q) (.ref D) s3.heap.objs.size) s4 := by
    refine compLoop_any (fun n s' => ∃ i H', Inv (X.blk s3 H3 scope ce [it]) [p] (wipe σ (own.map (·.2))) H' s' ∧ s'.heap.IsListIter it a i ∧ H' it = none ∧ W i n H') ?_ m0 ⟨0, H3, I4p, st4, nfp, w0⟩
    rintro n s5 ⟨i, H5, I5, st5, n5, w5⟩
    have fp5 := stat I5 n5
    rcases turn i n H5 w5 with ⟨stop, qq⟩ | ⟨go, Nx, hNx, step⟩
    · obtain ⟨xs, hq, hx⟩ := stop
      obtain ⟨its, rv, pl, hz⟩ := I5.list hq
      have hl5 := rv.length
      have P5 := (I5.pin p (List.mem_append_right _ (by simp))).1
      refine next_end_hot (x1 := p.1) ⟨hh, p.2, vs0, P5, hp1, hp2⟩ st5 pl.isList (by simp; omega) pit fun h' eb => ?_
      obtain ⟨g0, g1, g2, g3, g4, g5⟩ := fp5
      have I6 : Inv (X.blk s3 H3 scope ce [it]) [p] (wipe σ (own.map (·.2))) H5 { s5 with heap := h' } := I5.turned (t' := s5.toks) (fun b o hb e => eb b o hb e) g0 g1 g3 g4 g5
      have I7 : Inv X pins σ H5 { s5 with heap := h' } := I3.call' (ch := [it]) I6.os I6.base I6.hok I6.bare fun b hb => ⟨(f3 b hb).1.2.2.2.1, (f3 b hb).1.2.1, (f3 b hb).1.2.2.2.2.1, (f3 b hb).1.2.2.2.2.2⟩
      have nC : H5 s3.heap.objs.size = none := by
        have z : H5 ce.locals = none := I6.free
        rw [cL] at z
        exact z
      obtain ⟨m, hn, _⟩ := I6.loc
      have hn : Heap.Ns _ ce.locals m := hn
      rw [cL] at hn
      refine ⟨m, hn, fun h'' sb => ?_⟩
      obtain ⟨f0, f1, f2, f3, f4, f5⟩ := I3.fpOk (Nat.le_refl _) nC
      exact ⟨.ref D, H5, I7.turned (t' := s5.toks) (fun b o hb e => (sb.2 b hb).trans e) f0 f1 f3 f4 f5, rfl, qq⟩
    · obtain ⟨xs, x, hq, hx⟩ := id go
      obtain ⟨its, rv, pl, hz⟩ := I5.list hq
      obtain ⟨u, hu, ru⟩ := rv.get hx
      obtain ⟨g0, g1, g2, g3, g4, g5⟩ := id fp5
      refine wpAny_pyNext_list_item st5 pl.isList (x := u) (by simpa using hu) fun h' st' sb => ?_
      have I6 : Inv (X.blk s3 H3 scope ce [it]) [p] (wipe σ (own.map (·.2))) H5 { s5 with heap := h' } := I5.turned (t' := s5.toks) (fun b o hb e => (sb.2 b hb).trans e) g0 g1 g3 g4 g5
      obtain ⟨o, e, c, d⟩ := id st'
      refine go_of (s := { s5 with heap := h' }) e c d (by decide) ?_
      generalize hs7 : ({ s5 with heap := h' } : Shared) = s7 at I6 ⊢
      have st7 : s7.heap.IsListIter it a (i + 1) := by rw [← hs7]; exact st'
      have I7' := I6.pinned (fp := [it]) (fun b hb => by rw [List.mem_singleton] at hb; rw [hb]; exact stat I6 n5) (fun b hb => by rw [List.mem_singleton] at hb; rw [hb]; exact tobj st7)
      refine thnF (pg.run _ s7 _ H5 x u _ I7' ru (step x H5 ⟨rfl, fun ys hy => by rw [I5.list_inj hy hq]; exact hx⟩)) fun _ s8 ⟨σ8, H8, I8, hw8, q8⟩ => ?_
      refine thnF (pt.run _ s8 σ8 H8 _ I8 q8) fun b s9 ⟨H9, I9, q9⟩ => ?_
      have fin : ∀ {s' : Shared} {H' : Hp}, Inv (X.blk s3 H3 scope ce [it]) ([p] ++ pinsAt [it] s7.heap) σ8 H' s' → Nx H' → ∃ m, m < n ∧ ∃ i H', Inv (X.blk s3 H3 scope ce [it]) [p] (wipe σ (own.map (·.2))) H' s' ∧ s'.heap.IsListIter it a i ∧ H' it = none ∧ W i m H' := fun {s' H'} I' nx => by
        obtain ⟨m', hm, w'⟩ := hNx H' nx
        have pin' : ∀ o, s7.heap.get? it = some o → s'.heap.get? it = some o ∧ H' it = none := fun o e =>
          let z := I'.pin (it, o) (List.mem_append_right _ (List.mem_append_right _ (mem_pinsAt (by simp) e)))
          ⟨z.1, z.2.1⟩
        have hl : (wipe σ (own.map (·.2))).length = σ8.length := by rw [← hw8, wipe_length]
        refine ⟨m', hm, i + 1, H', (I'.unpinned (pins := [p])).weak hl (fun j v e => ?_), tkeep st7 fun o e => (pin' o e).1, ?_, w'⟩
        · rw [← hw8] at e
          exact (wipe_some e).1
        · obtain ⟨o, e, _⟩ := tobj st7
          exact (pin' o e).2
      cases b with
      | false =>
        simp only [Bool.false_eq_true, if_false] at q9 ⊢
        exact fin I9 q9
      | true =>
        simp only [if_true] at q9 ⊢
        refine thnF (pe.run _ s9 σ8 H9 _ I9 q9) fun z s10 ⟨yv, H10, I10, r10, acc, hD10, hz10, nx⟩ => ?_
        exact app_ok (X := X.blk s3 H3 scope ce [it]) I10 hD10 hz10 r10 fun s11 I11 => fin I11 nx
  exact codeAny_compStart_list loop (wpAny_pyIter_listiter st4 loop)
end
end DL

set_option Elab.async false
set_option linter.all false
set_option maxRecDepth 100000
set_option maxHeartbeats 4000000
/-! DH2: the def that tells an error's word -/
namespace DL
open PySem PySem.Spec PySem.SeqAt PySem.W L2 DG PyProof.Rows L2H HotX
/-! ### isinstance of the exception that is handled -/
section
variable {X : Cx}
theorem call_isH {a D : Addr} {oe : Obj} (C : ExcC X.K D) (hz : Zc (.ref D) none oe) (hf : ∃ vs, oe.data = .fields vs) (hp : (a, oe) ∈ X.pn) : CallR X (.builtin "isinstance") (rIsE X.K D a) := by
  intro pins s σ H xs us Q I r h
  obtain ⟨c, cv, b, rfl, hcv, e, q⟩ := h
  cases r with
  | cons rx rr =>
    cases rr with
    | cons rt rr =>
      cases rr
      cases rx
      have ec := hcv _ rt
      subst ec
      obtain ⟨hget, _⟩ := I.pin (a, oe) (List.mem_append.mpr (.inl hp))
      obtain ⟨vs, hv⟩ := hf
      have J : PySem.W.InstAt s.heap a oe D none := by
        obtain ⟨oc, od, oda, osl⟩ := oe
        obtain ⟨h1, h2⟩ := hz
        dsimp only at h1 h2 hv
        subst h1 h2 hv
        exact ⟨hget, rfl, rfl, trivial⟩
      exact PySem.W.kia_one (PySem.W.handS_kitx_exc C.hg C.hk C.hs C.hd C.ha C.hn C.ht C.hm) I.kIn J e (fun z => nomatch z) fun tk => ⟨.bl b, H, I.kept (t' := tk) fun _ _ z => z, rfl, q⟩
def tIsW (i : Nat) (a : Addr) (b : Bool) : TE := fun σ H Q => σ[i]? = some (some (.ref a)) ∧ Q (.bl b) H
theorem pe_isW {a D C1 : Addr} {oe : Obj} {i : Nat} {n x1 : Str} {b : Bool} {p5 p6 p7 p8 : Pos} (C : ExcC X.K D) (hz : Zc (.ref D) none oe) (hf : ∃ vs, oe.data = .fields vs) (hp : (a, oe) ∈ X.pn) (hv : PE X (.Name n p6) (tVar i)) (hk : PySem.W.kitOne X.K (.ref D) (.ref C1) = some b)
    (gm : X.mg x1 = some (.ref C1)) (hgI : Gl X "isinstance") (hmI : X.mg "isinstance" = none) (hg1 : Gl X x1) (hd1 : (x1 == ("__debug__" : Str)) = false) (hbI : bootBuiltins "isinstance" = some (.builtin "isinstance")) :
    PE X (.Call (.Name "isinstance" p5) [.Name n p6, .Name x1 p7] [] p8) (tIsW i a b) :=
  PE.imp (pe_callB (call_isH C hz hf hp) hgI hmI hbI (pa_cons hv (pa_cons (pe_glob hg1 gm (v := .ref C1) rfl hd1) pa_nil rfl) rfl) (by decide) (by decide) rfl rfl) fun σ H Q ⟨h1, h2⟩ => ⟨.ref a, h1, .ref C1, .ref C1, b, rfl, fun u hu => hu, hk, h2⟩
/-- the names of the classes, one by one -/
def tKinds (i k : Nat) (a : Addr) (bs : List Bool) : TS := fun D σ H => σ[i]? = some (some (.ref a)) ∧ ∀ L, H L = none → D.nx (σ.set k (some (.ref L))) (upd H L (.lst (bs.map V.bl)))
theorem ps_kinds {a : Addr} {i k : Nat} {kn : Str} {kp lp pos : Pos} {c1 c2 c3 c4 c5 : Expr} {b1 b2 b3 b4 b5 : Bool} (h1 : PE X c1 (tIsW i a b1)) (h2 : PE X c2 (tIsW i a b2)) (h3 : PE X c3 (tIsW i a b3)) (h4 : PE X c4 (tIsW i a b4)) (h5 : PE X c5 (tIsW i a b5))
    (hg : PG X (.Name kn kp) (gName k)) (s1 : starEach [c1, c2, c3, c4, c5] X.env = (false, eval c1 X.env) :: starEach [c2, c3, c4, c5] X.env := by rfl) (s2 : starEach [c2, c3, c4, c5] X.env = (false, eval c2 X.env) :: starEach [c3, c4, c5] X.env := by rfl)
    (s3 : starEach [c3, c4, c5] X.env = (false, eval c3 X.env) :: starEach [c4, c5] X.env := by rfl) (s4 : starEach [c4, c5] X.env = (false, eval c4 X.env) :: starEach [c5] X.env := by rfl) (s5 : starEach [c5] X.env = (false, eval c5 X.env) :: starEach [] X.env := by rfl)
    (hs : swapsWithSole [.Name kn kp] (.List [c1, c2, c3, c4, c5] lp) pos.line X.env = pure false := by rfl) (hw : swappedStores [.Name kn kp] (.List [c1, c2, c3, c4, c5] lp) X.env = pure none := by rfl) :
    PS X (.Assign [.Name kn kp] (.List [c1, c2, c3, c4, c5] lp) pos) (tKinds i k a [b1, b2, b3, b4, b5]) :=
  PS.imp (ps_asg (pe_lst (pa_cons h1 (pa_cons h2 (pa_cons h3 (pa_cons h4 (pa_cons h5 pa_nil s5) s4) s3) s2) s1)) hg hs hw) fun D σ H ⟨e, q⟩ => ⟨e, e, e, e, e, by show 5 ≤ sizeLine; decide, fun p hp => q p hp⟩
end
/-! ### the list comprehension, xs.index(True) -/
section
variable {X : Cx} {T : Addr → Prop} {Wx : WX} {l elt tg o e : Expr} {ifs : List Expr} {scope : Scope} {own : List (Str × Nat)} {pos apos cpos : Pos} {fa fe fo : Ef} {tgt : Tg} {tt : Ev → Wd → R Bool} {ix : List Nat}
def iSl (fa : Ef) : Ev → Wd → R (List D) := fun ρ w => (fa ρ w).bind fun d w1 => match d with
  | .list ds => .ok ds w1
  | _ => .bad
theorem so_lcH (hc : HotC X) (hN : X.N.Nodup) (ha : SE (gx X T) Wx X l fa) (ok : BlkOk X.N X.env.scope scope own) (hix : ∀ i ∈ ix, i ∈ own.map (·.2))
    (hg : ∀ (s : Shared) (H : Hp) (C : Addr) (cl : List (Str × Addr)) (fp : List Addr), SG false (gx X T) (X.blk s H scope (compEnvC scope cl C X.env) fp) tg ix tgt)
    (ht : ∀ (s : Shared) (H : Hp) (C : Addr) (cl : List (Str × Addr)) (fp : List Addr), PTs (X.blk s H scope (compEnvC scope cl C X.env) fp) ifs (tT (gx X T) W0 tt))
    (he : ∀ (s : Shared) (H : Hp) (C : Addr) (cl : List (Str × Addr)) (fp : List Addr), SE (gx X T) W0 (X.blk s H scope (compEnvC scope cl C X.env) fp) elt fe) (hs : ∀ x, foldedSetIterable l X.env x = pure x := by intro _; rfl) :
    SO (gx X T) Wx X (.ListComp elt [⟨tg, l, ifs, 0⟩] scope pos) (oLc (iSl fa) tgt tt fe (own.map (·.2))) :=
  PE.imp (pe_lcH hc hN ha ok hg ht he hs) fun σ H Q h => by
    have h := lc_in (fi := iSl fa) (md := false) hix h
    obtain ⟨F, ad, ρ, w, a0, p⟩ := h
    exact unE_in a0 p fun F1 H1 w1 x dx a1 _ rx p1 => by
      cases rx with
      | lst e r => exact ⟨_, rfl, ⟨_, SqL.of (a1.hp.sub _ _ e)⟩, p1 F1 H1 a1.hp Grow.refl _ (it_list e r)⟩
      | _ => exact p1.elim
def bools : List D → Option (List Bool)
  | [] => some []
  | .bool b :: ds => (bools ds).map (b :: ·)
  | _ => none
theorem bools_eq : ∀ {ds : List D} {bs : List Bool}, bools ds = some bs → ds = bs.map PyData.bool
  | [], bs, h => by cases h; rfl
  | d :: ds, bs, h => by
    cases d with
    | bool b =>
      unfold bools at h
      cases q : bools ds with
      | none => rw [q] at h; cases h
      | some cs => rw [q] at h; cases h; rw [bools_eq q]; rfl
    | _ => cases h
def dIdx : D → D → Option D
  | .list ds, .bool b => match bools ds with
    | some bs => if b ∈ bs ∧ bs.length ≤ sizeLine then some (.int (bs.idxOf b : Nat)) else none
    | none => none
  | _, _ => none
def eIdx (fo fa : Ef) : Ef := fun ρ w => (fo ρ w).bind fun d w1 => match d with
  | .list ds => (fa ρ w1).bind fun b w2 => R.of w2 (dIdx (.list ds) b)
  | _ => .bad
theorem plain_bools (bs : List Bool) : PyData.plainAll (bs.map PyData.bool) = true := by
  induction bs with
  | nil => rfl
  | cons b bs ih => rw [List.map_cons, PyData.plainAll, ih]; rfl
theorem se_index (hu : X.A.units + 100 < cLine) (ho : SB (gx X T) Wx X o fo) (ha : SB (gx X T) Wx X e fa)
    (hbase : attributeBase o "index" X.env (eval o X.env) = eval o X.env := by rfl)
    (hfew : ((backTo cpos (starEach [e] X.env)).all (fun x => !x.1) && (backToKw cpos (keywordEach [] X.env)).all (fun x => x.1.isSome)
      && decide ([e].length + ([] : List Keyword).length + (if ([] : List Keyword).isEmpty then 0 else 1) < 30)) = true := by rfl)
    (hline : (apos.endLine == cpos.line) = true := by rfl) (hs : starEach [e] X.env = (false, eval e X.env) :: starEach [] X.env := by rfl) (hplain : (backTo cpos (starEach [] X.env)).any (·.1) = false := by rfl) :
    SE (gx X T) Wx X (.Call (.Attribute o "index" apos) [e] [] cpos) (eIdx fo fa) := ⟨fun pins s σ H Q I ⟨F, ad, ρ, w, a0, p⟩ => by
  have hA : PA X [e] _ := pa_cons ha pa_nil hs
  refine wpAny_Call_method_late hbase hfew hline rfl (thn (ho.run pins s σ H (fun x H1 => ∃ F1 w1 dx, At (gx X T) F1 ad σ H1 ρ w1 ∧ RepB (gx X T) F1 ad H1 x dx ∧
    Post (gx X T) Wx σ F1 ad H1 (fun d _ F' H' => ∀ v, Rep X.K F' v d → Q v H') (match dx with | .list ds => (fa ρ w1).bind fun b w2 => R.of w2 (dIdx (.list ds) b) | _ => .bad)) I (un_in a0 p fun F1 H1 w1 x dx a1 _ rx p1 => ⟨F1, w1, dx, a1, rx, p1⟩)) fun v s1 ⟨x, H1, I1, r1, F1, w1, dx, a1, rx, p1⟩ => ?_)
  cases dx with
  | list ds =>
    dsimp only at p1
    have args : ∀ {id : String} {Q1 : Value → Shared → Prop}, (∀ u s2 y H2 F2 w2 dy, Inv X pins σ H2 s2 → RelV y u → At (gx X T) F2 ad σ H2 ρ w2 → Grow (gx X T) ad F1 H1 F2 H2 → RepB (gx X T) F2 ad H2 y dy →
        Post (gx X T) Wx σ F2 ad H2 (fun d _ F' H' => ∀ v, Rep X.K F' v d → Q v H') (R.of w2 (dIdx (.list ds) dy)) → wpAny (model X.prog X.w) X.A (call (.builtin id) [v, u]) Q1 X.xe s2) →
        wpAny (model X.prog X.w) X.A (callWith cpos (.builtin id) [v] (backTo cpos (starEach [e] X.env)) []) Q1 X.xe s1 := fun {id Q1} k => by
      have hR := hA.run cpos pins s1 σ H1 (fun vs H2 => ∃ y F2 w2 dy, vs = [y] ∧ At (gx X T) F2 ad σ H2 ρ w2 ∧ Grow (gx X T) ad F1 H1 F2 H2 ∧ RepB (gx X T) F2 ad H2 y dy ∧ Post (gx X T) Wx σ F2 ad H2 (fun d _ F' H' => ∀ v, Rep X.K F' v d → Q v H') (R.of w2 (dIdx (.list ds) dy))) I1
        (un_in a1 p1 fun F2 H2 w2 y dy a2 g2 ry p2 => ⟨y, F2, w2, dy, rfl, a2, g2, ry, p2⟩)
      rw [hs] at hR ⊢
      refine Calls.callWith_builtin (by show (false || (backTo cpos (starEach [] X.env)).any (·.1)) = false; rw [hplain] <;> rfl) (Calls.evalArgs_plain ?_)
      refine thn hR fun us s2 ⟨vs, H2, I2, r2, y, F2, w2, dy, ev, a2, g2, ry, p2⟩ => ?_
      subst ev
      obtain ⟨u, eu, ru⟩ := vals1 r2
      subst eu
      exact k u s2 y H2 F2 w2 dy I2 ru a2 g2 ry p2
    obtain ⟨q, vs, rfl, hq, rq⟩ := rx.list a1.hp
    obtain ⟨h1, h2⟩ := tyV_is I1 r1 (T := "list") (.inl ⟨rfl, vs, SqL.of hq⟩)
    refine ⟨"list", _, PySem.F.plainAttrs_list, PySem.F.slot_list_index, PySem.F.type_list_index, h1, h2, args fun u s2 y H2 F2 w2 dy I2 ru a2 g2 ry p2 => ?_⟩
    cases r1
    cases dy with
    | bool b =>
      have e3 : dIdx (.list ds) (.bool b) = (match bools ds with | some bs => if b ∈ bs ∧ bs.length ≤ sizeLine then some (.int (bs.idxOf b : Nat)) else none | none => none) := rfl
      rw [e3] at p2
      cases qb : bools ds with
      | none => rw [qb] at p2; exact p2.elim
      | some bs =>
        rw [qb] at p2
        dsimp only at p2
        by_cases hm : b ∈ bs ∧ bs.length ≤ sizeLine
        · rw [if_pos hm] at p2
          have eds := bools_eq qb
          subst eds
          obtain ⟨q', vs2, e2, hq2, rq2⟩ := (rx.grow a1.hp g2).list a2.hp
          cases e2
          obtain ⟨its, rv, pl, hz⟩ := I2.list (SqL.of (K := X.K) hq2)
          obtain ⟨as, rs⟩ := readsL I2 a2.hp rq2 (plain_bools bs) rv
          obtain ⟨cs, rr⟩ := ry.reads I2 a2.hp rfl ru
          have HA : PySem.W.HoldAll s2.heap its bs := ⟨as, rs⟩
          have HB : PySem.W.Holds s2.heap u b := ⟨cs, rr⟩
          refine PySem.W.index_list_datum pl.isList HA HB (by show X.A.units + 1 + 0 < cLine; omega) hm.2 hm.1 ⟨.int _, H2, I2.tok _, ⟨_, rfl⟩, p2 F2 H2 a2.hp Grow.refl _ (.int _)⟩
        · rw [if_neg hm] at p2; exact p2.elim
    | _ => exact p2.elim
  | _ => exact p1.elim⟩
end
end DL

set_option Elab.async false
set_option linter.all false
set_option maxRecDepth 100000
set_option maxHeartbeats 4000000
/-! DH3: such a def's promise; try: .. except C as e: return word(e) -/
namespace DL
open PySem PySem.Spec PySem.SeqAt PySem.W L2 DG PyProof.Rows L2H HotX
abbrev cxW (P : Program) (w : World) (K : PySem.W.Frag) (mg : Str → Option Value) (base : Heap) (N : List Str) (x : Str) (st : Stmt) (f : Addr) (cdv : Value) (A : Around) (outer : List Env) (s : Shared) (H : Hp) (E : XK) (p : Addr × Obj) : Cx :=
  cxH (L2N.CX P w) P w K mg base N x (defScope st) f cdv A outer s H E p
/-- a def that tells the word of the error that is handled -/
structure KW (P : Program) (w : World) (K : PySem.W.Frag) (mg : Str → Option Value) (base : Heap) (T : Addr → Prop) (k : Nat) (x : Str) (Rw : Addr → Str → Prop) : Prop where
  ex : ∃ f fd n, mg x = some (.ref f) ∧ PySem.W.keepIn K (.ref f) = true ∧ Binds K fd [n] [] ∧
    ∀ (A : Around) (outer : List Env) (s : Shared) (H : Hp) (args : PySem.Args) (us : List Value) (Q : VK) (E : XK) (p : Addr × Obj) (word : Str) (C : Addr) (F : Hp) (ad : Option Addr) (wd : Wd), RoomH k A → Hot1 A p → PinOk outer H s p → Env0 P w K mg base A outer s H →
      BindsTo s fd args ([n].zip us) → us = [.ref p.1] → Rw C word → Zc (.ref C) none p.2 → (∃ vs, p.2.data = .fields vs) → HeapOk ⟨K, mg, T⟩ F ad H wd → (∀ F' H', HeapOk ⟨K, mg, T⟩ F' ad H' wd → Grow ⟨K, mg, T⟩ ad F H F' H' → Q (.str word) H') →
      codeAny (model P w) A (.call (.ref f) args) (CR (L2N.CX P w) outer P w H s Q E) s
section
variable {P : Program} {w : World} {K : PySem.W.Frag} {mg : Str → Option Value} {base : Heap} {T : Addr → Prop} {k : Nat} {x n : Str} {Rw : Addr → Str → Prop}
theorem kinds_at {G : Gx} {F H : Hp} {ad : Option Addr} {wd : Wd} {N : List Str} {a L : Addr} {bs : List Bool} (hN : 2 ≤ N.length) (h : HeapOk G F ad H wd) (hL : H L = none) :
    AtS G F H (upd F L (.lst (bs.map V.bl))) ad ((L2.start N [.ref a]).set 1 (some (.ref L))) (upd H L (.lst (bs.map V.bl))) ((List.replicate N.length none).set 1 (some (.v (.list (bs.map .bool))))) wd := by
  obtain ⟨h1, g1⟩ := h.newF (o := .lst (bs.map V.bl)) hL
  have hl : (L2.start N [V.ref a]).length = N.length := by
    unfold L2.start
    rw [List.length_append, List.length_map, List.length_replicate]
    simp; omega
  have one : ∀ (i : Nat) s, ((List.replicate N.length (none : Option Sl)).set 1 (some (.v (.list (bs.map .bool)))))[i]? = some (some s) → i = 1 ∧ s = .v (.list (bs.map .bool)) := fun i s e => by
    by_cases q : i = 1
    · subst q
      rw [List.getElem?_set_self (by simp; omega)] at e
      cases e; exact ⟨rfl, rfl⟩
    · rw [List.getElem?_set_ne (Ne.symm q), List.getElem?_replicate] at e
      split at e <;> cases e
  have rl : RepL G.K (upd F L (.lst (bs.map V.bl))) (bs.map V.bl) (bs.map PyData.bool) := by
    induction bs with
    | nil => exact .nil
    | cons b bs ih =>
      have : ∀ cs : List Bool, ∀ F' : Hp, RepL G.K F' (cs.map V.bl) (cs.map PyData.bool) := fun cs F' => by
        induction cs with
        | nil => exact .nil
        | cons c cs ih => exact .cons (.bl c) ih
      exact this _ _
  refine ⟨h1, ⟨?_, fun i s e => ?_, fun i j s t v ne e1 e2 o1 o2 e3 => ?_⟩, g1, fun i s b e o _ => ?_⟩
  · rw [List.length_set, List.length_set, List.length_replicate, hl]
  · obtain ⟨rfl, rfl⟩ := one i s e
    exact ⟨.ref L, List.getElem?_set_self (by rw [hl]; omega), .lst upd_same rl⟩
  · obtain ⟨_, rfl⟩ := one i s e1
    cases o1
  · obtain ⟨_, rfl⟩ := one i s e
    cases o
theorem kw_of {st : Stmt} {f : Addr} {fd : FuncData} {N : List Str} (D0 : Df K mg x st [n] f fd) (S : FnScope N [n] (defScope st)) (hN : 2 ≤ N.length)
    (hb : ∀ (cdv : Value) (A : Around) (outer : List Env) (s : Shared) (H : Hp) (E : XK) (p : Addr × Obj) (C : Addr) (word : Str), fd.code = cdv → Rw C word → Hot1 A p → RoomH k (A.deeper (envOfC x (defScope st) s.heap.objs.size f cdv)) → Zc (.ref C) none p.2 → (∃ vs, p.2.data = .fields vs) →
      ∃ (bs : List Bool) (fr : Sf), PSs (cxW P w K mg base N x st f cdv A outer s H E p) (defBody st) (tSeq (tKinds 0 1 p.1 bs) (tS ⟨K, mg, T⟩ (fun cls d _ H => E cls d H) fr)) ∧ ∀ wd, fr ((List.replicate N.length none).set 1 (some (.v (.list (bs.map .bool))))) wd = .rt (.str word) wd) :
    KW P w K mg base T (k + 1) x Rw := by
  refine ⟨f, fd, n, D0.gm, D0.fn.kp, D0.bd, fun A outer s H args us Q E p word C F ad wd hr hot hpin e0 hbt hus hw hz hv hh hq => ?_⟩
  obtain ⟨oc, od, kV, doc, pm, an, cdv, ct, osl, rfl, lk, hcd⟩ := D0.fn.ex
  subst hus
  have KX : K.In s.heap := e0.mod.kin.keeps fun b o e => (e0.bs b o e).1
  have lim : s.heap.NoLimit := e0.mod.nolimit.keeps fun b o e => (e0.bs b o e).1
  have r : Vals [V.ref p.1] [Value.ref p.1] := .cons rfl .nil
  have hkind : ∀ y ∈ [n].zip [Value.ref p.1], (defScope st).names.lookup y.1 = some .local ∨ ((defScope st).names.lookup y.1 = some .cell ∧ ((cellsFrom (s.heap.objs.size + 1) (defScope st).names []).lookup y.1).isSome = true) := fun ⟨m, v⟩ hy => by
    rcases S.par m (List.of_mem_zip hy).1 with q | q
    · exact .inl q
    · exact .inr ⟨q, PySem.W.cellsFrom_some _ _ _ (.inl q)⟩
  refine codeAny_call_function hr.depth (KX _ _ lk) rfl S.co S.gen rfl (PySem.W.codeRec_of KX hcd) (hbt _ _ _ _ ?_)
  refine wpAny_newFunctionEnv_cells S.kind hkind fun env he s1 x1 => ?_
  subst he
  refine ⟨lim.keeps x1.toInCall.keep, codeAny_func ?_⟩
  obtain ⟨bs, fr, ht, hfr⟩ := hb cdv A outer s H E p C word rfl hw hot (hr.deeper _) hz hv
  have I : L2.Inv (cxW P w K mg base N x st f cdv A outer s H E p) [] (L2.start N [V.ref p.1]) H s1 := inv_startH S hpin e0 rfl r x1
  have hQ : tSeq (tKinds 0 1 p.1 bs) (tS ⟨K, mg, T⟩ (fun cls d _ H => E cls d H) fr) { nx := fun _ H' => Q .non H', rt := Q } (L2.start N [V.ref p.1]) H := by
    refine ⟨rfl, fun L hL => ⟨F, H, _, ad, _, wd, kinds_at hN hh hL, ?_⟩⟩
    rw [hfr wd]
    intro v F' H' h1 g1 rv
    cases rv
    exact hq F' H' h1 g1
  refine wpAny_mono (ht.run [] s1 (L2.start N [V.ref p.1]) H _ I hQ) (fun fl s' hs => ?_) fun e s' hs => hs
  have fin : ∀ {σ' : L2.St} {H' : Hp} {v : V} {u : Value}, L2.Inv (cxW P w K mg base N x st f cdv A outer s H E p) [] σ' H' s' → RelV v u → Q v H' → CE outer P w H s Q u s' :=
    fun {σ' H' v u} J rv q => ⟨v, H', J.os, J.bare, J.base, J.hok, rv, q⟩
  cases fl with
  | ret u =>
    obtain ⟨v, σ', H', J, rv, q⟩ := hs
    exact fin J rv q
  | next =>
    obtain ⟨σ', H', J, q⟩ := hs
    exact fin (v := V.non) (u := Value.none) J rfl q
  | brk =>
    obtain ⟨_, _, _, q⟩ := hs
    exact False.elim q
  | cont =>
    obtain ⟨_, _, _, q⟩ := hs
    exact False.elim q
end
/-- try: .. except x as n: return wf(n) -/
def sTryW (f : Sf) (tbl : List (Str × Str)) : Sf := fun ρ w => match f ρ w with
  | .exc c w => match tbl.lookup c with
    | some word => .rt (.str word) w
    | none => .bad
  | r => r
section
variable {X : Cx} {T : Addr → Prop} {Wx : WX} {k : Nat} {Rw : Addr → Str → Prop}
def tWord (T : Addr → Prop) (X : Cx) (Rw : Addr → Str → Prop) (i : Nat) (a : Addr) (oe : Obj) : TE := fun σ H Q => (i < σ.length → σ[i]? = some (some (.ref a))) ∧
  ∃ C word F ad wd, Rw C word ∧ Zc (.ref C) none oe ∧ HeapOk (gx X T) F ad H wd ∧ ∀ F' H', HeapOk (gx X T) F' ad H' wd → Grow (gx X T) ad F H F' H' → Q (.str word) H'
theorem pe_word {a : Addr} {oe : Obj} {i : Nat} {n wf : Str} {pn : List (Addr × Obj)} {p1 p2 p3 : Pos} (kw : KW X.prog X.w X.K X.mg X.base T k wf Rw) (hr : Room k X.A) (hcx : PXN.CtxN oe) (hv : ∃ vs, oe.data = .fields vs) (hp : PE (X.suite a ((a, oe) :: pn)) (.Name n p2) (tVar i)) (hi : i < X.N.length)
    (hg : Gl X wf) (hdb : (wf == ("__debug__" : Str)) = false) (he : starEach [.Name n p2] X.env = (false, eval (.Name n p2) X.env) :: starEach [] X.env) (hpl : (backTo p3 (starEach [] X.env)).any (·.1) = false) :
    PE (X.suite a ((a, oe) :: pn)) (.Call (.Name wf p1) [.Name n p2] [] p3) (tWord T X Rw i a oe) := by
  obtain ⟨f, fd, m, hm, hk, hb, F⟩ := kw.ex
  refine ⟨fun pins s σ H Q I ⟨hσ, C, word, F0, ad, wd, hw, hz, hh, q0⟩ => ?_⟩
  refine wpAny_Call_Name_kw (ld_glob I hg hm ?_ hdb)
  have ha : PA (X.suite a ((a, oe) :: pn)) [.Name n p2] (tCons (tVar i) tNil) := pa_cons hp pa_nil he
  refine PySem.W.callWith_K (h₀ := X.base) I.ok.mod.kin hk (thn (ha.run p3 pins s σ H (fun vs H1 => vs = [.ref a] ∧ H1 = H) I ⟨.ref a, hσ (by rw [I.len]; exact hi), rfl, rfl⟩) fun us s1 ⟨vs, H1, I1, r, q⟩ => ⟨I1.kIn, ?_⟩) he hpl
  obtain ⟨rfl, rfl⟩ := q
  obtain ⟨vs0, hv0⟩ := id hv
  have hot : Hot1 (X.suite a ((a, oe) :: pn)).A (a, oe) := ⟨rfl, vs0, hv0, hcx vs0 hv0⟩
  have P1 := I1.pin (a, oe) (List.mem_append_left _ List.mem_cons_self)
  have hpin : PinOk (X.suite a ((a, oe) :: pn)).stack H1 s1 (a, oe) := ⟨P1.1, P1.2.1, fun hm => (List.mem_cons.mp (I1.stkSub a hm)).elim P1.2.2.1 P1.2.2.2.1, P1.2.2.2.2⟩
  have hus : us = [.ref a] := by
    cases r with
    | cons r1 rr =>
      cases rr
      cases r1
      rfl
  have b := hb s1 us I1.kIn (by rw [List.append_nil, hus]; rfl)
  rw [List.append_nil] at b
  have hx : PassesAt (L2N.CX X.prog X.w) (X.suite a ((a, oe) :: pn)) σ (fun _ _ _ => False) := L2N.passAt (X := X.suite a ((a, oe) :: pn)) (W := fun _ _ _ _ => False) takesN0 σ
  refine wpAny_call (codeAny_mono (F (X.suite a ((a, oe) :: pn)).A (X.suite a ((a, oe) :: pn)).stack s1 H1 ⟨us, []⟩ us Q (fun _ _ _ => False) (a, oe) word C F0 ad wd (RoomH.mk hr.dp hr.un) hot hpin I1.env0 b hus hw hz hv hh q0) fun r s' hq => ?_)
  cases r with
  | error e => exact hx pins H1 s1 e s' I1 hq
  | ok fl =>
    cases fl with
    | ret u => exact I1.after hq
    | next => exact False.elim hq
    | brk => exact False.elim hq
    | cont => exact False.elim hq
theorem ss_tryW {x n wf : Str} {i : Nat} {C0 : Addr} {body : List Stmt} {fb : Sf} {np pos pos' p1 p2 p3 p4 : Pos} (tbl : List (Str × Str))
    (kw : KW X.prog X.w X.K X.mg X.base T k wf Rw) (hr : Room k X.A) (ht : ∀ c word, tbl.lookup c = some word → ∃ C, X.mg c = some (.ref C) ∧ PySem.W.exmOne X.K (.ref C) (.ref C0) = some true ∧ Rw C word)
    (hs : X.stack = X.env :: X.outer) (hf : X.env.frame = some X.env.locals) (hN : X.N.Nodup) (hi : X.N[i]? = some n) (hln : X.env.kindOf n = some .local) (hc : Names X x (.ref C0)) (tk : L2N.Takes X Wx)
    (hg : Gl X wf) (hdb : (wf == ("__debug__" : Str)) = false) (hdn : (n == ("__debug__" : Str)) = false) (hdc : (n == ("__classdict__" : Str)) = false)
    (hb : ∀ (W : WX) (pn : List (Addr × Obj)) (xe : Value → Shared → Prop), L2N.Takes (X.tr pn xe) W → PassesOwn (model X.prog X.w) X.A X.env xe → SSs (gx X T) W (X.tr pn xe) body fb)
    (he : starEach [.Name n p2] X.env = (false, eval (.Name n p2) X.env) :: starEach [] X.env := by rfl) (hpl : (backTo p3 (starEach [] X.env)).any (·.1) = false := by rfl) :
    SS (gx X T) Wx X (.Try body [.ExceptHandler (some (.Name x np)) (some n) [.Return (some (.Call (.Name wf p1) [.Name n p2] [] p3)) p4] pos'] [] [] pos) (sTryW fb tbl) := by
  have lt : i < X.N.length := (List.getElem?_eq_some_iff.mp hi).1
  refine PS.imp (L2N.ps_try_as (tb := fun W => tS (gx X T) W fb) (ts := fun a cls d => fun D σ H => (i < σ.length → σ[i]? = some (some (.ref a))) ∧ ∃ C word F ad wd, cls = .ref C ∧ d = none ∧ Rw C word ∧ HeapOk (gx X T) F ad H wd ∧ ∀ F' H', HeapOk (gx X T) F' ad H' wd → Grow (gx X T) ad F H F' H' → D.rt (.str word) H') (Wout := Wx) hs hf hN hi hln hc tk hb
    (fun a oe cls d pn hz hv => ?_)) fun Dn σ H ⟨F0, H0, F, ad, ρ, w, a0, p⟩ => ⟨F0, H0, F, ad, ρ, w, a0, ?_⟩
  · refine ⟨fun pins s σ H D I q => ?_⟩
    obtain ⟨hσ, C, word, F, ad, wd, rfl, rfl, hw, hh, q⟩ := q
    have ev : PE (X.suite a ((a, oe) :: pn)) (.Name n p2) (tVar i) := pe_var hi (.inl hln) hdn hdc
    have h3 : PE (X.suite a ((a, oe) :: pn)) (.Call (.Name wf p1) [.Name n p2] [] p3) _ := pe_word kw hr hz.2.2 hv ev lt hg hdb he hpl
    exact (pss_one (ps_ret h3)).run pins s σ H D I ⟨hσ, C, word, F, ad, wd, hw, hz.zc, hh, q⟩
  · unfold sTryW at p
    cases r : fb ρ w with
    | exc c w1 =>
      rw [r] at p
      dsimp only at p
      cases l : tbl.lookup c with
      | none => rw [l] at p; exact p.elim
      | some word =>
        rw [l] at p
        dsimp only at p
        obtain ⟨C, gm, hex, hw⟩ := ht c word l
        refine ⟨C, gm, fun σ' F' H' h' g' => ⟨true, hex, fun _ a ha => ⟨fun hl => ?_, C, word, F', ad, w1, rfl, rfl, hw, h', fun F2 H2 h2 g2 => ?_⟩, fun z => by cases z⟩⟩
        · rw [List.length_set] at hl
          exact List.getElem?_set_self hl
        · exact p _ F2 _ h2 (g'.then h' g2) (.str word)
    | nx ρ1 w1 => rw [r] at p; exact p
    | rt d w1 => rw [r] at p; exact p
    | ro d w1 => rw [r] at p; exact p
    | bk ρ1 w1 => rw [r] at p; exact p
    | ct ρ1 w1 => rw [r] at p; exact p
    | bad => rw [r] at p; exact p.elim
end
theorem hu_h {k : Nat} {X : Cx} (hr : RoomH k X.A) : X.A.units + 100 < cLine := by have := hr.un; omega
theorem KW.up {P : Program} {w : World} {K : PySem.W.Frag} {mg : Str → Option Value} {base : Heap} {T : Addr → Prop} {j k : Nat} {x : Str} {Rw : Addr → Str → Prop} (h : KW P w K mg base T j x Rw) (hj : j ≤ k) : KW P w K mg base T k x Rw :=
  let ⟨f, fd, n, h1, h2, h3, h4⟩ := h.ex
  ⟨f, fd, n, h1, h2, h3, fun A outer s H args us Q E p word C F ad wd hr => h4 A outer s H args us Q E p word C F ad wd (hr.mono hj)⟩
theorem tbl_nil {Q : Str → Str → Prop} : ∀ c word, ([] : List (Str × Str)).lookup c = some word → Q c word := fun c word h => by cases h
theorem tbl_cons {Q : Str → Str → Prop} {c0 w0 : Str} {tbl : List (Str × Str)} (h : Q c0 w0) (t : ∀ c word, tbl.lookup c = some word → Q c word) : ∀ c word, ((c0, w0) :: tbl).lookup c = some word → Q c word := fun c word e => by
  rw [List.lookup_cons] at e
  split at e
  · rename_i q
    have q := beq_iff_eq.mp q
    cases e
    rw [q]; exact h
  · exact t c word e
end DL

set_option Elab.async false
set_option linter.all false
set_option maxRecDepth 100000
set_option maxHeartbeats 4000000
/-! DH4: xs, y = [..], e;  xs += [..] -/
namespace DL
open PySem PySem.Spec PySem.SeqAt PySem.W L2 DG PyProof.Rows
section
variable {X : Cx} {T : Addr → Prop} {Wx : WX} {a b c e : Expr} {fo : Ev → Wd → R (List D)} {fa fb : Ef} {x y z : Str} {px py pz pt pos p1 pos' : Pos}
def sParO (i j : Nat) (fo : Ev → Wd → R (List D)) (fb : Ef) : Sf := fun ρ w => bindS (fo ρ w) fun ds w1 => bindS (fb ρ w1) fun d w2 => if i < ρ.length ∧ j < ρ.length then .nx ((ρ.set i (some (.ol ds))).set j (some (.v d))) w2 else .bad
theorem ss_parO {i j : Nat} {kt : Nat} {k2 : Nat} {pt2 : Pos} (hc : X.calm = true) (hN : X.N.Nodup) (hi : X.N[i]? = some x) (hj : X.N[j]? = some y) (hij : i ≠ j)
    (hx : X.env.scope.names.lookup x = some .local) (hy : X.env.scope.names.lookup y = some .local) (ho : SO (gx X T) Wx X a fo) (hb : SE (gx X T) Wx X b fb)
    (hw : swappedStores [.Tuple [.Name x px, .Name y py] kt pt] (.Tuple [a, b] k2 pt2) X.env = pure (some [x, y]))
    (h1 : starEach [a, b] X.env = (false, eval a X.env) :: starEach [b] X.env := by rfl) (h2 : starEach [b] X.env = (false, eval b X.env) :: starEach [] X.env := by rfl)
    (hs : swapsWithSole [.Tuple [.Name x px, .Name y py] kt pt] (.Tuple [a, b] k2 pt2) pos.line X.env = pure false := by rfl) :
    SS (gx X T) Wx X (.Assign [.Tuple [.Name x px, .Name y py] kt pt] (.Tuple [a, b] k2 pt2) pos) (sParO i j fo fb) :=
  PS.imp (ps_par hc hN hi hj hij hx hy (pa_cons ho (pa_cons hb pa_nil h2) h1) hw hs) fun Dn σ H ⟨F0, H0, F, ad, ρ, w, a0, p⟩ => ⟨F, ad, ρ, w, a0.at, (expr_post a0 p).imp fun ds w1 F1 H1 hp1 g1 q l vs hn ha hf r => by
    obtain ⟨a1, p1⟩ := q
    have hd : ad ≠ some l := fun z => a0.hp.dN l z hn
    refine ⟨F1, ad, ρ, w1, a1.at, (expr_post a1 p1).imp fun d w2 F2 H2 hp2 g2 q2 v rv => ?_⟩
    obtain ⟨a2, p2⟩ := q2
    split at p2
    · rename_i hl
      have nt : ¬ (gx X T).T l := notT hp1 ha fun ps z => by cases z
      have ha2 : H2 l = some (.lst vs) := g2.keep l _ ha nt hd
      have hf2 : F2 l = none := g2.nf l (by rw [ha]; exact fun z => by cases z) hf
      have n0 : H0 l = none := by
        cases q : H0 l with
        | none => rfl
        | some o =>
          exact absurd hn (by
            by_cases ht : T l
            · exact a0.hp.tN l ht
            · rw [a0.gr.keep l o q ht hd]; exact fun z => by cases z)
      have a3 := a2.setOwn (s := .ol ds) (a := l) hl.1 rfl ⟨l, vs, rfl, hf2, hd, ha2, r.mono g2.mono⟩ n0 fun k t e o z => by
        obtain ⟨v, h3, h4⟩ := a0.en.sl k t e
        rw [z] at h3
        cases h3
        cases t with
        | v d => cases o
        | dr => cases o
        | sc ns => cases o
        | ol ds =>
          obtain ⟨b, vs, z, _, _, h5, _⟩ := h4
          cases z
          rw [hn] at h5; cases h5
        | od kvs =>
          obtain ⟨b, o, z, _, _, h5, _⟩ := h4
          cases z
          rw [hn] at h5; cases h5
      obtain ⟨e2, o2⟩ := a3.en.setV rv (by rw [List.length_set]; exact hl.2)
      exact ⟨_, _, rfl, p2 _ F2 H2 (a3.env e2 o2)⟩
    · exact p2.elim⟩
theorem set_same {σ : L2.St} {i : Nat} {v : Option V} (h : σ[i]? = some v) : σ.set i v = σ := by
  refine List.ext_getElem? fun k => ?_
  by_cases q : i = k
  · subst q
    rw [List.getElem?_set_self (List.getElem?_eq_some_iff.mp h).1, h]
  · rw [List.getElem?_set_ne q]
/-- xs += e, xs an own list, e a list -/
theorem ss_augE {i : Nat} (hN : X.N.Nodup) (hi : X.N[i]? = some x) (hx : Loc X.env.scope x) (he : SE (gx X T) Wx X e fa)
    (hf : X.fn x = true ∨ X.env.scope.names.lookup x = some .local := by first | exact .inl rfl | exact .inr rfl | assumption) : SS (gx X T) Wx X (.AugAssign (.Name x pos') .Add e pos) (sExt i fa) :=
  PS.imp (ps_aug (ti := rExt2) hN hi hx he (fun pins s σ H x y v u Q I rx ry h => iop_ext pins s σ H x y v u Q I rx ry h) hf) fun Dn σ H ⟨F0, H0, F, ad, ρ, w, a0, p⟩ => by
    unfold sExt at p
    split at p
    case h_2 => exact p.elim
    rename_i ds e
    obtain ⟨v, h1, a, vs, rfl, h3, h4, h5, h6⟩ := a0.en.sl i _ e
    refine ⟨_, h1, ?_⟩
    refine exprD_in a0 p fun F1 H1 w1 y dy a1 r p1 => ?_
    obtain ⟨v2, g1, a2, vs2, z2, g3, g4, g5, g6⟩ := a1.en.sl i _ e
    rw [h1] at g1
    cases g1
    cases z2
    cases dy with
    | list es =>
      change PostS (gx X T) Wx F0 H0 ad Dn (if ds.length + es.length ≤ sizeLine then .nx (ρ.set i (some (.ol (ds ++ es)))) w1 else .bad) at p1
      split at p1
      · rename_i hl
        cases r with
        | @lst b us _ hb rb =>
          refine ⟨a, b, vs2, us, rfl, rfl, g5, a1.hp.sub _ _ hb, by rw [g6.length, rb.length]; exact hl, ?_⟩
          show Dn.nx (List.set σ i (some (V.ref a))) _
          rw [set_same h1]
          exact p1 σ F1 _ (a1.put e rfl h1 (notT a1.hp g5 fun ps z => by cases z) g3 g4 rfl ⟨a, vs2 ++ us, rfl, g3, g4, upd_same, g6.append rb⟩)
      · exact p1.elim
    | _ => exact p1.elim
end
end DL

set_option Elab.async false
set_option linter.all false
set_option maxRecDepth 100000
set_option maxHeartbeats 4000000
/-! DH5: tuples compared by <; the sum of a tuple -/
namespace DL
open PySem PySem.Spec PySem.SeqAt PySem.W L2 DG PyProof.Rows
section
variable {prog : Program} {w : World} {A : Around} {E : Value → Shared → Prop} {s : Shared} {l : Addr} {its : List Value} {ns : List Int} {Q : Value → Shared → Prop}
theorem sum_rawT (hh : A.handled = none) (hl : s.heap.IsTuple l its.toArray) (hi : IntsAre its ns)
    (h : ∀ h' tk t', (∀ b o, s.heap.get? b = some o → h'.get? b = some o) → Q (.int ns.sum t') { s with heap := h', toks := tk }) : wpAny (model prog w) A (call (.builtin "sum") [.ref l]) Q E s := by
  obtain ⟨xs, e⟩ := hi.allInts.items
  have hn : numsOf (intItems xs).toList = ns := by rw [← e]; exact hi.numsOf
  rw [nums_intItems] at hn
  rw [e] at hl
  have hlt : l < s.heap.objs.size := by
    obtain ⟨o, ho, _⟩ := id hl
    exact Heap.lt_size ho
  refine call_sum_walkG (wpAny_pyIter_tuple hl ⟨s.heap.objs.size, _, _, _, _, _, numAt xs, rfl, Walks.tuple (A := A.in1) hh _ l (Nat.ne_of_lt hlt) (intItems xs), ⟨⟨_, Heap.get?_push_size _ rfl, rfl, rfl⟩, hl.at fun o e => Heap.get?_push_of_some _ e⟩, fun b hb => ?_, fun _ _ => intItems_at, fun h' tk t' hk => ?_⟩)
  · rw [Heap.size_push]
    rcases List.mem_cons.mp hb with hb | hb
    · rw [hb]; exact Nat.lt_succ_self _
    · rw [List.mem_singleton.mp hb]; exact Nat.lt_succ_of_lt hlt
  · have := h h' tk t' fun b o e => hk b o (fun z => by
      rw [List.mem_singleton.mp z] at e
      exact absurd (Heap.lt_size e) (Nat.lt_irrefl _)) (Heap.get?_push_of_some _ e)
    have hz : (intItems xs).size = xs.size := by simp [intItems]
    rw [hz, preSum_eq, List.take_of_length_le (by simp), hn]
    exact this
end
section
variable {X : Cx} {T : Addr → Prop}
def gSumA : List D → Option D
  | [.list ds] => (intsOf ds).map fun ns => .int ns.sum
  | [.tuple ds] => (intsOf ds).map fun ns => .int ns.sum
  | _ => none
theorem cd_sumA (hc : X.calm = true) : CallR X (.builtin "sum") (rCD X T gSumA) := by
  intro pins s σ H xs us Q I r ⟨F, ad, w, ds, d, hp, rb, e, q⟩
  unfold gSumA at e
  split at e
  · rename_i es
    exact cd_sum hc pins s σ H xs us Q I r ⟨F, ad, w, _, d, hp, rb, e, q⟩
  · rename_i es
    cases rb with
    | cons b1 t =>
      cases t
      obtain ⟨a, vs, rfl, ha, ra⟩ := b1.tup hp
      cases z : intsOf es with
      | none => rw [z] at e; cases e
      | some ns =>
        rw [z] at e
        cases e
        obtain rfl := intsOf_rep ra z
        obtain ⟨u, eu, ru⟩ := vals1 r
        subst eu
        cases ru
        obtain ⟨its, rv, pl, hz⟩ := I.tuple ha
        exact sum_rawT (I.ok.hd hc) pl rv.ints fun h' tk t' hk => ⟨.int _, H, I.kept hk, ⟨_, rfl⟩, fin0 hp q (.int _)⟩
  · cases e
def ltOk (a b : D) : Bool := a.plain && b.plain && alike a b && !isNon a && decide (min a.depth b.depth ≤ 64)
def dLtT (a b : D) : Option D := if ltOk a b = true then some (.bool (dataLt a b)) else none
theorem od_ltT (hu : X.A.units + 100 < cLine) : OpD X T (compareOp .Lt) dLtT := by
  intro pins s σ H x y v u Q F ad w dx dy d I rx ry hp bx bY e q
  unfold dLtT at e
  split at e
  · rename_i h
    cases e
    unfold ltOk at h
    simp only [Bool.and_eq_true, decide_eq_true_eq, Bool.not_eq_true'] at h
    obtain ⟨⟨⟨⟨h1, h2⟩, h3⟩, h4⟩, h5⟩ := h
    obtain ⟨as, r1⟩ := bx.reads I hp h1 rx
    obtain ⟨bs, r2⟩ := bY.reads I hp h2 ry
    exact lt_data r1 r2 h3 (fun z => by rw [z] at h4; cases h4) (by omega) ⟨.bl _, H, I, rfl, fin0 hp q (.bl _)⟩
  · cases e
end
end DL

set_option Elab.async false
set_option linter.all false
set_option maxRecDepth 100000
set_option maxHeartbeats 4000000
/-! DM1: how the mirrors are evaluated -/
namespace DM
open PySem PySem.Spec L2 DL DG PyProof.Rows PySem.W
section
variable {α β : Type} {w w1 : Wd} {a : α} {f : α → Wd → R β} {c : Str}
@[simp] theorem bind_ok : R.bind (.ok a w) f = f a w := Eq.trans rfl rfl
@[simp] theorem bind_exc : R.bind (.exc c w : R α) f = .exc c w := Eq.trans rfl rfl
@[simp] theorem bindS_ok {k : α → Wd → RS} : bindS (.ok a w) k = k a w := Eq.trans rfl rfl
@[simp] theorem bindS_exc {k : α → Wd → RS} : bindS (.exc c w) k = .exc c w := Eq.trans rfl rfl
@[simp] theorem of_some : R.of w (some a) = .ok a w := Eq.trans rfl rfl
@[simp] theorem calm_ok : R.calm (.ok a w) = .ok a w := Eq.trans rfl rfl
@[simp] theorem seqK_nx {ρ : Ev} {g : Sf} : seqK (.nx ρ w) g = g ρ w := Eq.trans rfl rfl
@[simp] theorem seqK_rt {d : D} {g : Sf} : seqK (.rt d w) g = .rt d w := Eq.trans rfl rfl
@[simp] theorem seqK_ro {d : List D} {g : Sf} : seqK (.ro d w) g = .ro d w := Eq.trans rfl rfl
@[simp] theorem seqK_exc {g : Sf} : seqK (.exc c w) g = .exc c w := Eq.trans rfl rfl
@[simp] theorem ofO_some {ρ : Ev} : ofO w (some ρ) = .nx ρ w := Eq.trans rfl rfl
end
def fnR : RS → R D
  | .nx _ w => .ok .none w
  | .rt d w => .ok d w
  | .exc c w => .exc c w
  | _ => .bad
theorem fnD_eq (n N : Nat) (body : Sf) (ss : List Sl) (w : Wd) : fnD n N body ss w = fnR (body (ent n N ss) w) := by
  unfold fnD
  cases body (ent n N ss) w <;> rfl
@[simp] theorem fnR_rt {d : D} {w : Wd} : fnR (.rt d w) = .ok d w := rfl
@[simp] theorem fnR_nx {ρ : Ev} {w : Wd} : fnR (.nx ρ w) = .ok .none w := rfl
@[simp] theorem fnR_exc {c : Str} {w : Wd} : fnR (.exc c w) = .exc c w := rfl
theorem big : sizeLine = 16777216 := by decide
/-! ### loops and comprehensions -/
theorem lcL_pure {tgt : Tg} {tt : Ev → Wd → R Bool} {fe : Ef} {ρ : Ev} {w : Wd} (p : D → Bool) (g : D → D) : ∀ ds : List D, (∀ d ∈ ds, ∃ ρ1, tgt d ρ = some ρ1 ∧ tt ρ1 w = .ok (p d) w ∧ (p d = true → fe ρ1 w = .ok (g d) w)) →
    lcL tgt tt fe ρ ds w = .ok ((ds.filter p).map g) w
  | [], _ => rfl
  | d :: ds, h => by
    obtain ⟨ρ1, h1, h2, h3⟩ := h d List.mem_cons_self
    have ih := lcL_pure p g ds fun x hx => h x (List.mem_cons_of_mem _ hx)
    unfold lcL
    rw [h1]
    dsimp only
    rw [h2, bind_ok]
    cases e : p d with
    | true => rw [if_pos rfl, h3 e, bind_ok, ih, bind_ok, List.filter_cons_of_pos (by rw [e]), List.map_cons]
    | false => rw [if_neg (by decide), ih, List.filter_cons_of_neg (by rw [e]; decide)]
theorem oLc_pure {fi : Ev → Wd → R (List D)} {tgt : Tg} {tt : Ev → Wd → R Bool} {fe : Ef} {vs : List Nat} {ρ : Ev} {w w1 : Wd} {ds : List D} (p : D → Bool) (g : D → D) (hi : fi ρ w = .ok ds w1) (hl : ds.length ≤ sizeLine)
    (h : ∀ d ∈ ds, ∃ ρ1, tgt d (wipeE ρ vs) = some ρ1 ∧ tt ρ1 w1 = .ok (p d) w1 ∧ (p d = true → fe ρ1 w1 = .ok (g d) w1)) : oLc fi tgt tt fe vs ρ w = .ok ((ds.filter p).map g) w1 := by
  unfold oLc
  rw [hi, bind_ok, if_pos hl, lcL_pure p g ds h, calm_ok]
/-- over the images of xs -/
theorem oLc_map {α β : Type} {fi : Ev → Wd → R (List D)} {tgt : Tg} {tt : Ev → Wd → R Bool} {fe : Ef} {vs : List Nat} {ρ : Ev} {w w1 : Wd} {xs : List α} (m : α → D) (n : β → D) (p : α → Bool) (g : α → β) (hi : fi ρ w = .ok (xs.map m) w1) (hl : xs.length ≤ sizeLine)
    (h : ∀ x ∈ xs, ∃ ρ1, tgt (m x) (wipeE ρ vs) = some ρ1 ∧ tt ρ1 w1 = .ok (p x) w1 ∧ (p x = true → fe ρ1 w1 = .ok (n (g x)) w1)) : oLc fi tgt tt fe vs ρ w = .ok (((xs.filter p).map g).map n) w1 := by
  unfold oLc
  rw [hi, bind_ok, if_pos (by rw [List.length_map]; exact hl)]
  have : ∀ xs : List α, (∀ x ∈ xs, ∃ ρ1, tgt (m x) (wipeE ρ vs) = some ρ1 ∧ tt ρ1 w1 = .ok (p x) w1 ∧ (p x = true → fe ρ1 w1 = .ok (n (g x)) w1)) → lcL tgt tt fe (wipeE ρ vs) (xs.map m) w1 = .ok (((xs.filter p).map g).map n) w1 := fun xs => by
    induction xs with
    | nil => intro _; rfl
    | cons d ds ih =>
      intro h
      obtain ⟨ρ1, h1, h2, h3⟩ := h d List.mem_cons_self
      have ih := ih fun x hx => h x (List.mem_cons_of_mem _ hx)
      rw [List.map_cons]
      unfold lcL
      rw [h1]
      dsimp only
      rw [h2, bind_ok]
      cases e : p d with
      | true => rw [if_pos rfl, h3 e, bind_ok, ih, bind_ok, List.filter_cons_of_pos (by rw [e]), List.map_cons, List.map_cons]
      | false => rw [if_neg (by decide), ih, List.filter_cons_of_neg (by rw [e]; decide)]
  rw [this xs h, calm_ok]
/-- all(..), any(..) -/
theorem eGen_map {α : Type} {c : Bool} {fi : Ev → Wd → R (List D)} {tgt : Tg} {tt : Ev → Wd → R Bool} {fe : Ef} {vs : List Nat} {ρ : Ev} {w w1 : Wd} {xs : List α} (m : α → D) (q : α → Bool) (hi : fi ρ w = .ok (xs.map m) w1)
    (h : ∀ x ∈ xs, ∃ ρ1, tgt (m x) (wipeE ρ vs) = some ρ1 ∧ tt ρ1 w1 = .ok true w1 ∧ fe ρ1 w1 = .ok (.bool (q x)) w1) : eGen c fi tgt tt fe vs ρ w = .ok (.bool (if c = true then xs.all q else xs.any q)) w1 := by
  unfold eGen
  rw [hi, bind_ok]
  have : ∀ xs : List α, (∀ x ∈ xs, ∃ ρ1, tgt (m x) (wipeE ρ vs) = some ρ1 ∧ tt ρ1 w1 = .ok true w1 ∧ fe ρ1 w1 = .ok (.bool (q x)) w1) → gnL c tgt tt fe (wipeE ρ vs) (xs.map m) w1 = .ok (.bool (if c = true then xs.all q else xs.any q)) w1 := fun xs => by
    induction xs with
    | nil => intro _; cases c <;> rfl
    | cons d ds ih =>
      intro h
      obtain ⟨ρ1, h1, h2, h3⟩ := h d List.mem_cons_self
      have ih := ih fun x hx => h x (List.mem_cons_of_mem _ hx)
      rw [List.map_cons]
      unfold gnL
      rw [h1]
      dsimp only
      rw [h2, bind_ok, if_pos rfl, h3, bind_ok]
      dsimp only
      cases c <;> cases e : q d <;> simp [e, ih]
  rw [this xs h, calm_ok]
theorem eAll_map {α : Type} {fi : Ev → Wd → R (List D)} {tgt : Tg} {tt : Ev → Wd → R Bool} {fe : Ef} {vs : List Nat} {ρ : Ev} {w w1 : Wd} {xs : List α} (m : α → D) (q : α → Bool) (hi : fi ρ w = .ok (xs.map m) w1)
    (h : ∀ x ∈ xs, ∃ ρ1, tgt (m x) (wipeE ρ vs) = some ρ1 ∧ tt ρ1 w1 = .ok true w1 ∧ fe ρ1 w1 = .ok (.bool (q x)) w1) : eGen true fi tgt tt fe vs ρ w = .ok (.bool (xs.all q)) w1 := eGen_map (c := true) m q hi h
theorem eAny_map {α : Type} {fi : Ev → Wd → R (List D)} {tgt : Tg} {tt : Ev → Wd → R Bool} {fe : Ef} {vs : List Nat} {ρ : Ev} {w w1 : Wd} {xs : List α} (m : α → D) (q : α → Bool) (hi : fi ρ w = .ok (xs.map m) w1)
    (h : ∀ x ∈ xs, ∃ ρ1, tgt (m x) (wipeE ρ vs) = some ρ1 ∧ tt ρ1 w1 = .ok true w1 ∧ fe ρ1 w1 = .ok (.bool (q x)) w1) : eGen false fi tgt tt fe vs ρ w = .ok (.bool (xs.any q)) w1 := eGen_map (c := false) m q hi h
/-- a for loop that runs to its end: what holds of the items done -/
theorem forL_inv {α : Type} (m : α → D) {tgt : Tg} {body : Sf} (I : List α → Ev → Wd → Prop) : ∀ (post pre : List α) (ρ : Ev) (w : Wd), I pre ρ w →
    (∀ p x q ρ w, pre ++ post = p ++ x :: q → I p ρ w → ∃ ρ1 ρ2 w2, tgt (m x) ρ = some ρ1 ∧ (body ρ1 w = .nx ρ2 w2 ∨ body ρ1 w = .ct ρ2 w2) ∧ I (p ++ [x]) ρ2 w2) → ∃ ρ2 w2, forL tgt body (post.map m) ρ w = .nx ρ2 w2 ∧ I (pre ++ post) ρ2 w2
  | [], pre, ρ, w, h0, _ => ⟨ρ, w, rfl, by rw [List.append_nil]; exact h0⟩
  | x :: post, pre, ρ, w, h0, h => by
    obtain ⟨ρ1, ρ2, w2, e1, e2, h2⟩ := h pre x post ρ w rfl h0
    have e : (pre ++ [x]) ++ post = pre ++ x :: post := by simp
    obtain ⟨ρ3, w3, e3, h3⟩ := forL_inv m I post (pre ++ [x]) ρ2 w2 h2 (by rw [e]; exact h)
    rw [e] at h3
    refine ⟨ρ3, w3, ?_, h3⟩
    rw [List.map_cons]
    unfold forL
    rw [e1]
    dsimp only
    rcases e2 with e2 | e2 <;> (rw [e2]; exact e3)
/-- the same without the items -/
theorem forL_keep {α : Type} (m : α → D) {tgt : Tg} {body : Sf} (I : Ev → Wd → Prop) : ∀ (xs : List α) (ρ : Ev) (w : Wd), I ρ w →
    (∀ x ∈ xs, ∀ ρ w, I ρ w → ∃ ρ1 ρ2 w2, tgt (m x) ρ = some ρ1 ∧ (body ρ1 w = .nx ρ2 w2 ∨ body ρ1 w = .ct ρ2 w2) ∧ I ρ2 w2) → ∃ ρ2 w2, forL tgt body (xs.map m) ρ w = .nx ρ2 w2 ∧ I ρ2 w2 := fun xs ρ w h0 h => by
  obtain ⟨ρ2, w2, e, i⟩ := forL_inv m (fun _ => I) xs [] ρ w h0 fun p x q ρ w e i => h x (by rw [List.nil_append] at e; rw [e]; simp) ρ w i
  exact ⟨ρ2, w2, e, i⟩
/-! ### numbers -/
def nD (n : Nat) : D := .int (n : Int)
theorem intsD_eq (lo : Int) (n : Nat) : intsD lo n = (List.range n).map fun (k : Nat) => PyData.int (lo + (k : Int)) := rfl
theorem ints0 (n : Nat) : intsD 0 n = (List.range n).map nD := by
  unfold intsD nD
  exact List.map_congr_left fun k _ => by rw [Int.zero_add]
/-! ### == and in, for values of one type -/
section
variable {α : Type} [DecidableEq α] [Datum α]
theorem eqOk_datum (h : Datum.depth α ≤ 64) (a b : α) : eqOk (Datum.toD a) (Datum.toD b) = true := by
  unfold eqOk
  rw [Datum.plain, Datum.plain, Bool.true_and, Bool.true_and, decide_eq_true_eq]
  exact Nat.le_trans (Nat.min_le_left _ _) (Nat.le_trans (Datum.depth_le a) h)
theorem dEq_datum (h : Datum.depth α ≤ 64) (a b : α) : dEq (Datum.toD a) (Datum.toD b) = some (.bool (decide (a = b))) := by
  unfold dEq
  rw [if_pos (eqOk_datum h a b), Datum.eqv]
theorem dNe_datum (h : Datum.depth α ≤ 64) (a b : α) : dNe (Datum.toD a) (Datum.toD b) = some (.bool (!decide (a = b))) := by
  unfold dNe
  rw [if_pos (eqOk_datum h a b), Datum.eqv]
theorem inOk_datum (h : Datum.depth α ≤ 64) (a : α) (xs : List α) : inOk (Datum.toD a) (xs.map Datum.toD) = true := by
  unfold inOk
  rw [Datum.plain, plainAll_map, Bool.true_and, Bool.true_and, decide_eq_true_eq]
  exact Nat.le_trans (Nat.min_le_right _ _) (Nat.le_trans (Datum.depth_le a) h)
theorem any_datum (a : α) (xs : List α) : ((xs.map Datum.toD).any fun z => PyData.eqv z (Datum.toD a)) = decide (a ∈ xs) := by
  rw [List.any_map, Bool.eq_iff_iff, List.any_eq_true, decide_eq_true_eq]
  constructor
  · rintro ⟨x, hx, e⟩
    have e : PyData.eqv (Datum.toD x) (Datum.toD a) = true := e
    rw [Datum.eqv, decide_eq_true_eq] at e
    rw [← e]; exact hx
  · intro hx
    exact ⟨a, hx, by show PyData.eqv (Datum.toD a) (Datum.toD a) = true; rw [Datum.eqv, decide_eq_true_eq]⟩
theorem dIn_list (h : Datum.depth α ≤ 64) (a : α) (xs : List α) : dIn (Datum.toD a) (.list (xs.map Datum.toD)) = some (.bool (decide (a ∈ xs))) := by
  show (if inOk (Datum.toD a) (xs.map Datum.toD) = true then some (PyData.bool ((xs.map Datum.toD).any fun z => PyData.eqv z (Datum.toD a))) else none) = _
  rw [if_pos (inOk_datum h a xs), any_datum]
theorem dIn_tuple (h : Datum.depth α ≤ 64) (a : α) (xs : List α) : dIn (Datum.toD a) (.tuple (xs.map Datum.toD)) = some (.bool (decide (a ∈ xs))) := by
  show (if inOk (Datum.toD a) (xs.map Datum.toD) = true then some (PyData.bool ((xs.map Datum.toD).any fun z => PyData.eqv z (Datum.toD a))) else none) = _
  rw [if_pos (inOk_datum h a xs), any_datum]
end
theorem dIn_ints (a : Int) (xs : List Int) : dIn (.int a) (.list (xs.map .int)) = some (.bool (decide (a ∈ xs))) := dIn_list (α := Int) (by decide) a xs
theorem dIn_intsT (a : Int) (xs : List Int) : dIn (.int a) (.tuple (xs.map .int)) = some (.bool (decide (a ∈ xs))) := dIn_tuple (α := Int) (by decide) a xs
theorem dEq_int (a b : Int) : dEq (.int a) (.int b) = some (.bool (decide (a = b))) := dEq_datum (α := Int) (by decide) a b
theorem dNe_int (a b : Int) : dNe (.int a) (.int b) = some (.bool (!decide (a = b))) := dNe_datum (α := Int) (by decide) a b
theorem dEq_bool (a b : Bool) : dEq (.bool a) (.bool b) = some (.bool (decide (a = b))) := dEq_datum (α := Bool) (by decide) a b
theorem dNe_bool (a b : Bool) : dNe (.bool a) (.bool b) = some (.bool (!decide (a = b))) := dNe_datum (α := Bool) (by decide) a b
/-- == [] -/
theorem dEq_nil {xs : List D} (h : PyData.plainAll xs = true) : dEq (.list xs) (.list []) = some (.bool xs.isEmpty) := by
  unfold dEq eqOk
  rw [if_pos]
  · cases xs <;> simp [PyData.eqv, PyData.eqvAll]
  · simp [PyData.plain, PyData.plainAll, h, PyData.depth, PyData.depthAll]
theorem dNe_nil {xs : List D} (h : PyData.plainAll xs = true) : dNe (.list xs) (.list []) = some (.bool (!xs.isEmpty)) := by
  unfold dNe eqOk
  rw [if_pos]
  · cases xs <;> simp [PyData.eqv, PyData.eqvAll]
  · simp [PyData.plain, PyData.plainAll, h, PyData.depth, PyData.depthAll]
/-! ### sorted, min, max of whole numbers -/
theorem plain_ints (xs : List Int) : PyData.plainAll (xs.map .int) = true := plainAll_map (α := Int) xs
theorem sortOk_ints (xs : List Int) : sortOk (xs.map .int) = true := by
  unfold sortOk
  rw [plain_ints, depth_ints]
  simp [alike]
def srtI (xs : List Int) : List Int := xs.mergeSort fun a b => decide (a ≤ b)
theorem sortD_ints (xs : List Int) : sortD false (xs.map .int) = (srtI xs).map .int := by
  unfold sortD srtI
  refine (sort_maps (r := fun a b : Int => decide (a ≤ b)) (s := dataLe false id) PyData.int fun a _ b _ => ?_).symm
  have := congrFun (congrFun (dataLe_int (β := Int) id) a) b
  exact this.symm
theorem gSorted_ints {xs : List Int} (h : xs.length ≤ sizeLine) : gSorted [.list (xs.map .int)] = some ((srtI xs).map PyData.int) := by
  show (if sortOk (xs.map .int) = true ∧ (xs.map PyData.int).length ≤ sizeLine then some (sortD false (xs.map .int)) else none) = _
  rw [if_pos ⟨sortOk_ints xs, by rw [List.length_map]; exact h⟩, sortD_ints]
theorem mmOk_ints (xs : List Int) : mmOk (xs.map .int) = true := by
  unfold mmOk alikeAllB
  rw [plain_ints, depth_ints]
  simp [alike, DL.isNon]
theorem gMin_ints (x : Int) (xs : List Int) : gMin [.list ((x :: xs).map .int)] = some (.int (xs.foldl min x)) := by
  show (if mmOk ((x :: xs).map .int) = true then some (minD (.int x) (xs.map .int)) else none) = _
  rw [if_pos (mmOk_ints _), minD_ints]
theorem gMax_ints (x : Int) (xs : List Int) : gMax [.list ((x :: xs).map .int)] = some (.int (xs.foldl max x)) := by
  show (if mmOk ((x :: xs).map .int) = true then some (maxD (.int x) (xs.map .int)) else none) = _
  rw [if_pos (mmOk_ints _), maxD_ints]
@[simp] theorem u_eBin {g : D → D → Option D} {fa fb : Ef} {ρ : Ev} {w : Wd} : eBin g fa fb ρ w = (fa ρ w).bind fun a w1 => (fb ρ w1).bind fun b w2 => R.of w2 (g a b) := Eq.trans rfl rfl
@[simp] theorem u_tstV {fa : Ef} {ρ : Ev} {w : Wd} : tstV fa ρ w = (fa ρ w).bind fun d w1 => R.of w1 (truth d) := Eq.trans rfl rfl
@[simp] theorem u_tCm {g : D → D → Option D} {fa fb : Ef} {ρ : Ev} {w : Wd} : tCm g fa fb ρ w = (fa ρ w).bind fun a w1 => (fb ρ w1).bind fun b w2 => R.of w2 ((g a b).bind bOf) := Eq.trans rfl rfl
@[simp] theorem u_tNo {ta : Ev → Wd → R Bool} {ρ : Ev} {w : Wd} : tNo ta ρ w = (ta ρ w).bind fun b w1 => .ok (!b) w1 := Eq.trans rfl rfl
@[simp] theorem u_tAn {ta tb : Ev → Wd → R Bool} {ρ : Ev} {w : Wd} : tAn ta tb ρ w = (ta ρ w).bind fun b w1 => if b = true then tb ρ w1 else .ok false w1 := Eq.trans rfl rfl
@[simp] theorem u_tOo {ta tb : Ev → Wd → R Bool} {ρ : Ev} {w : Wd} : tOo ta tb ρ w = (ta ρ w).bind fun b w1 => if b = true then .ok true w1 else tb ρ w1 := Eq.trans rfl rfl
@[simp] theorem u_eNo {fa : Ef} {ρ : Ev} {w : Wd} : eNo fa ρ w = (fa ρ w).bind fun d w1 => R.of w1 ((truth d).map fun b => .bool (!b)) := Eq.trans rfl rfl
@[simp] theorem u_eIf {tc : Ev → Wd → R Bool} {fa fb : Ef} {ρ : Ev} {w : Wd} : eIf tc fa fb ρ w = (tc ρ w).bind fun k w1 => if k = true then fa ρ w1 else fb ρ w1 := Eq.trans rfl rfl
@[simp] theorem u_eT {ta : Ev → Wd → R Bool} {ρ : Ev} {w : Wd} : eT ta ρ w = (ta ρ w).bind fun b w1 => .ok (.bool b) w1 := Eq.trans rfl rfl
@[simp] theorem u_eC {d : D} {ρ : Ev} {w : Wd} : eC d ρ w = .ok d w := Eq.trans rfl rfl
@[simp] theorem u_lN  {ρ : Ev} {w : Wd} : lN ρ w = .ok [] w := Eq.trans rfl rfl
@[simp] theorem u_lC {fe : Ef} {fs : Ev → Wd → R (List D)} {ρ : Ev} {w : Wd} : lC fe fs ρ w = (fe ρ w).bind fun d w1 => (fs ρ w1).bind fun ds w2 => .ok (d :: ds) w2 := Eq.trans rfl rfl
@[simp] theorem u_eTup {fs : Ev → Wd → R (List D)} {ρ : Ev} {w : Wd} : eTup fs ρ w = (fs ρ w).bind fun ds w1 => if ds.length ≤ sizeLine then .ok (.tuple ds) w1 else .bad := Eq.trans rfl rfl
@[simp] theorem u_oLst {fs : Ev → Wd → R (List D)} {ρ : Ev} {w : Wd} : oLst fs ρ w = (fs ρ w).bind fun ds w1 => if ds.length ≤ sizeLine then .ok ds w1 else .bad := Eq.trans rfl rfl
@[simp] theorem u_eFz {fo : Ev → Wd → R (List D)} {ρ : Ev} {w : Wd} : eFz fo ρ w = (fo ρ w).bind fun ds w1 => .ok (.list ds) w1 := Eq.trans rfl rfl
@[simp] theorem u_pN  {ρ : Ev} {w : Wd} : pN ρ w = .ok none w := Eq.trans rfl rfl
@[simp] theorem u_pS {fa : Ef} {ρ : Ev} {w : Wd} : pS fa ρ w = (fa ρ w).bind fun d w1 => R.of w1 ((intOf d).map some) := Eq.trans rfl rfl
@[simp] theorem u_eCut {fa : Ef} {fl fh : Ev → Wd → R (Option Int)} {ρ : Ev} {w : Wd} : eCut fa fl fh ρ w = (fa ρ w).bind fun d w1 => (fl ρ w1).bind fun lo w2 => (fh ρ w2).bind fun hi w3 => R.of w3 (dCut lo hi d) := Eq.trans rfl rfl
@[simp] theorem u_eCall {g : List D → Option D} {fs : Ev → Wd → R (List D)} {ρ : Ev} {w : Wd} : eCall g fs ρ w = (fs ρ w).bind fun ds w1 => R.of w1 (g ds) := Eq.trans rfl rfl
@[simp] theorem u_oCall {g : List D → Option (List D)} {fs : Ev → Wd → R (List D)} {ρ : Ev} {w : Wd} : oCall g fs ρ w = (fs ρ w).bind fun ds w1 => R.of w1 (g ds) := Eq.trans rfl rfl
@[simp] theorem u_eIs {ty : String} {fa : Ef} {ρ : Ev} {w : Wd} : eIs ty fa ρ w = (fa ρ w).bind fun d w1 => R.of w1 ((isTy ty d).map .bool) := Eq.trans rfl rfl
@[simp] theorem u_sNil  {ρ : Ev} {w : Wd} : sNil ρ w = .nx ρ w := Eq.trans rfl rfl
@[simp] theorem u_sSeq {f g : Sf} {ρ : Ev} {w : Wd} : sSeq f g ρ w = seqK (f ρ w) g := Eq.trans rfl rfl
@[simp] theorem u_sIf {tc : Ev → Wd → R Bool} {f g : Sf} {ρ : Ev} {w : Wd} : sIf tc f g ρ w = bindS (tc ρ w) fun b w1 => if b = true then f ρ w1 else g ρ w1 := Eq.trans rfl rfl
@[simp] theorem u_sRet {fa : Ef} {ρ : Ev} {w : Wd} : sRet fa ρ w = bindS (fa ρ w) fun d w1 => .rt d w1 := Eq.trans rfl rfl
@[simp] theorem u_sRetO {fo : Ev → Wd → R (List D)} {ρ : Ev} {w : Wd} : sRetO fo ρ w = bindS (fo ρ w) fun ds w1 => .ro ds w1 := Eq.trans rfl rfl
@[simp] theorem u_sRetN  {ρ : Ev} {w : Wd} : sRetN ρ w = .rt .none w := Eq.trans rfl rfl
@[simp] theorem u_sBk  {ρ : Ev} {w : Wd} : sBk ρ w = .bk ρ w := Eq.trans rfl rfl
@[simp] theorem u_sCt  {ρ : Ev} {w : Wd} : sCt ρ w = .ct ρ w := Eq.trans rfl rfl
@[simp] theorem u_sDrop {fa : Ef} {ρ : Ev} {w : Wd} : sDrop fa ρ w = bindS (fa ρ w) fun _ w1 => .nx ρ w1 := Eq.trans rfl rfl
@[simp] theorem u_sAsg {fa : Ef} {g : Tg} {ρ : Ev} {w : Wd} : sAsg fa g ρ w = bindS (fa ρ w) fun d w1 => ofO w1 (g d ρ) := Eq.trans rfl rfl
@[simp] theorem u_sOwn {fo : Ev → Wd → R (List D)} {i : Nat} {ρ : Ev} {w : Wd} : sOwn fo i ρ w = bindS (fo ρ w) fun ds w1 => if i < ρ.length then .nx (ρ.set i (some (.ol ds))) w1 else .bad := Eq.trans rfl rfl
@[simp] theorem u_sFor {fi : Ev → Wd → R (List D)} {t : Tg} {b : Sf} {ρ : Ev} {w : Wd} : sFor fi t b ρ w = bindS (fi ρ w) fun ds w1 => forL t b ds ρ w1 := Eq.trans rfl rfl
@[simp] theorem u_iS {fa : Ef} {ρ : Ev} {w : Wd} : iS fa ρ w = (fa ρ w).bind fun d w1 => R.of w1 (seqOf d) := Eq.trans rfl rfl
@[simp] theorem u_oYes  {ρ : Ev} {w : Wd} : oYes ρ w = .ok true w := Eq.trans rfl rfl
@[simp] theorem u_lStar {fe : Ef} {fs : Ev → Wd → R (List D)} {ρ : Ev} {w : Wd} : lStar fe fs ρ w = (fe ρ w).bind fun d w1 => match seqOf d with | some xs => (fs ρ w1).bind fun ds w2 => .ok (xs ++ ds) w2 | none => .bad := Eq.trans rfl rfl
@[simp] theorem u_eRev {fa : Ef} {ρ : Ev} {w : Wd} : eRev fa ρ w = (fa ρ w).bind fun d w1 => R.of w1 (dRev d) := Eq.trans rfl rfl
@[simp] theorem u_eNeg {fa : Ef} {ρ : Ev} {w : Wd} : eNeg fa ρ w = (fa ρ w).bind fun d w1 => R.of w1 (dNeg d) := Eq.trans rfl rfl
@[simp] theorem u_aNil  {ρ : Ev} {w : Wd} : aNil ρ w = .ok [] w := Eq.trans rfl rfl
@[simp] theorem u_aCons {fa : Ef} {fs : Ev → Wd → R (List Sl)} {ρ : Ev} {w : Wd} : aCons fa fs ρ w = (fa ρ w).bind fun d w1 => (fs ρ w1).bind fun ss w2 => .ok (.v d :: ss) w2 := Eq.trans rfl rfl
@[simp] theorem u_eCallF {n : Nat} {fm : List Sl → Wd → R D} {fs : Ev → Wd → R (List Sl)} {ρ : Ev} {w : Wd} : eCallF n fm fs ρ w = (fs ρ w).bind fun ss w1 => if ss.length = n then fm ss w1 else .bad := Eq.trans rfl rfl
@[simp] theorem u_oCallF {n : Nat} {fm : List Sl → Wd → R (List D)} {fs : Ev → Wd → R (List Sl)} {ρ : Ev} {w : Wd} : oCallF n fm fs ρ w = (fs ρ w).bind fun ss w1 => if ss.length = n then fm ss w1 else .bad := Eq.trans rfl rfl
@[simp] theorem u_sDnew {i : Nat} {ρ : Ev} {w : Wd} : sDnew i ρ w = if i < ρ.length then .nx (ρ.set i (some (.od []))) w else .bad := Eq.trans rfl rfl
@[simp] theorem u_sRaise {x : Str} {ρ : Ev} {w : Wd} : sRaise x ρ w = .exc x w := Eq.trans rfl rfl
@[simp] theorem u_ent {n N : Nat} {ss : List Sl} : ent n N ss = ss.map some ++ List.replicate (N - n) none := Eq.trans rfl rfl
@[simp] theorem u_gN {i : Nat} {d : D} {ρ : Ev} : gN i d ρ = if i < ρ.length then some (ρ.set i (some (.v d))) else none := Eq.trans rfl rfl
@[simp] theorem u_gsNn  {ρ : Ev} : gsN [] ρ = some ρ := Eq.trans rfl rfl
@[simp] theorem u_gsCc {g : Tg} {gs : Tgs} {d : D} {ds : List D} {ρ : Ev} : gsC g gs (d :: ds) ρ = (g d ρ).bind fun ρ1 => gs ds ρ1 := Eq.trans rfl rfl
@[simp] theorem u_gTt {n : Nat} {gs : Tgs} {ds : List D} {ρ : Ev} : gT n gs (.tuple ds) ρ = if ds.length = n then gs ds ρ else none := Eq.trans rfl rfl
@[simp] theorem u_truN  : truth .none = some false := Eq.trans rfl rfl
@[simp] theorem u_truB {b : Bool} : truth (.bool b) = some b := Eq.trans rfl rfl
@[simp] theorem u_truI {i : Int} : truth (.int i) = some (i != 0) := Eq.trans rfl rfl
@[simp] theorem u_truL {ds : List D} : truth (.list ds) = some (!ds.isEmpty) := Eq.trans rfl rfl
@[simp] theorem u_truT {ds : List D} : truth (.tuple ds) = some (!ds.isEmpty) := Eq.trans rfl rfl
@[simp] theorem u_bOfb {b : Bool} : bOf (.bool b) = some b := Eq.trans rfl rfl
@[simp] theorem u_intOf {i : Int} : intOf (.int i) = some i := Eq.trans rfl rfl
@[simp] theorem u_seqL {ds : List D} : seqOf (.list ds) = some ds := Eq.trans rfl rfl
@[simp] theorem u_seqT {ds : List D} : seqOf (.tuple ds) = some ds := Eq.trans rfl rfl
@[simp] theorem u_lenL {ds : List D} : gLen [.list ds] = some (.int ds.length) := Eq.trans rfl rfl
@[simp] theorem u_lenT {ds : List D} : gLen [.tuple ds] = some (.int ds.length) := Eq.trans rfl rfl
@[simp] theorem u_ixL {ds : List D} {i : Int} : dIx (.list ds) (.int i) = L2.atI ds i := Eq.trans rfl rfl
@[simp] theorem u_ixT {ds : List D} {i : Int} : dIx (.tuple ds) (.int i) = L2.atI ds i := Eq.trans rfl rfl
@[simp] theorem u_addI {i j : Int} : dAdd (.int i) (.int j) = some (.int (i + j)) := Eq.trans rfl rfl
@[simp] theorem u_iadI {i j : Int} : dIadd (.int i) (.int j) = some (.int (i + j)) := Eq.trans rfl rfl
@[simp] theorem u_subI {i j : Int} : dSub (.int i) (.int j) = some (.int (i - j)) := Eq.trans rfl rfl
@[simp] theorem u_negI {i : Int} : dNeg (.int i) = some (.int (-i)) := Eq.trans rfl rfl
@[simp] theorem u_ltI {i j : Int} : dLt (.int i) (.int j) = some (.bool (decide (i < j))) := Eq.trans rfl rfl
@[simp] theorem u_leI {i j : Int} : dLe (.int i) (.int j) = some (.bool (decide (i ≤ j))) := Eq.trans rfl rfl
@[simp] theorem u_gtI {i j : Int} : dGt (.int i) (.int j) = some (.bool (decide (j < i))) := Eq.trans rfl rfl
@[simp] theorem u_geI {i j : Int} : dGe (.int i) (.int j) = some (.bool (decide (j ≤ i))) := Eq.trans rfl rfl
@[simp] theorem u_intI {i : Int} : gInt [.int i] = some (.int i) := Eq.trans rfl rfl
@[simp] theorem u_absI {i : Int} : gAbs [.int i] = some (.int (if i < 0 then -i else i)) := Eq.trans rfl rfl
@[simp] theorem u_isN {d : D} : dIs d .none = some (.bool (DL.isNon d)) := Eq.trans rfl rfl
@[simp] theorem u_isB {a b : Bool} : dIs (.bool a) (.bool b) = some (.bool (a == b)) := Eq.trans rfl rfl
@[simp] theorem u_nisN {d : D} : dNis d .none = some (.bool (!DL.isNon d)) := Eq.trans rfl rfl
@[simp] theorem u_nisB {a b : Bool} : dNis (.bool a) (.bool b) = some (.bool (a != b)) := Eq.trans rfl rfl
@[simp] theorem u_eV {i : Nat} {ρ : Ev} {w : Wd} : eV i ρ w = match ρ[i]? with | some (some (.v d)) => .ok d w | _ => .bad := Eq.trans rfl rfl
@[simp] theorem u_eBw {i : Nat} {ρ : Ev} {w : Wd} : eBw i ρ w = match ρ[i]? with | some (some (.v d)) => .ok d w | some (some (.ol ds)) => .ok (.list ds) w | some (some (.od kvs)) => .ok (.dict kvs) w | _ => .bad := Eq.trans rfl rfl
@[simp] theorem u_aSl {i : Nat} {fs : Ev → Wd → R (List Sl)} {ρ : Ev} {w : Wd} : aSl i fs ρ w = match ρ[i]? with | some (some .dr) => (fs ρ w).bind fun ss w2 => .ok (.dr :: ss) w2 | some (some (.sc ns)) => (fs ρ w).bind fun ss w2 => .ok (.sc ns :: ss) w2 | _ => .bad := Eq.trans rfl rfl
@[simp] theorem u_sFz {i : Nat} {ρ : Ev} {w : Wd} : sFz i ρ w = match ρ[i]? with | some (some (.ol ds)) => .nx (ρ.set i (some (.v (.list ds)))) w | some (some (.od kvs)) => .nx (ρ.set i (some (.v (.dict kvs)))) w | _ => .bad := Eq.trans rfl rfl
@[simp] theorem u_wipe0 {ρ : Ev} : wipeE ρ [] = ρ := Eq.trans rfl rfl
@[simp] theorem u_wipe1 {ρ : Ev} {v : Nat} {vs : List Nat} : wipeE ρ (v :: vs) = (wipeE ρ vs).set v none := Eq.trans rfl rfl
@[simp] theorem filterT {α : Type} (xs : List α) : xs.filter (fun _ => true) = xs := List.filter_eq_self.mpr fun _ _ => rfl
theorem oLc_mapT {α β : Type} {fi : Ev → Wd → R (List D)} {tgt : Tg} {fe : Ef} {vs : List Nat} {ρ : Ev} {w w1 : Wd} {xs : List α} (m : α → D) (n : β → D) (g : α → β) (hi : fi ρ w = .ok (xs.map m) w1) (hl : xs.length ≤ sizeLine)
    (h : ∀ x ∈ xs, ∃ ρ1, tgt (m x) (wipeE ρ vs) = some ρ1 ∧ fe ρ1 w1 = .ok (n (g x)) w1) : oLc fi tgt oYes fe vs ρ w = .ok ((xs.map g).map n) w1 := by
  have e := oLc_map (fi := fi) (tgt := tgt) (tt := oYes) (fe := fe) (vs := vs) (ρ := ρ) m n (fun _ => true) g hi hl fun x hx => by
    obtain ⟨ρ1, a, b⟩ := h x hx
    exact ⟨ρ1, a, rfl, fun _ => b⟩
  rwa [filterT] at e
theorem oLc_filt {α : Type} {fi : Ev → Wd → R (List D)} {tgt : Tg} {tt : Ev → Wd → R Bool} {fe : Ef} {vs : List Nat} {ρ : Ev} {w w1 : Wd} {xs : List α} (m : α → D) (p : α → Bool) (hi : fi ρ w = .ok (xs.map m) w1) (hl : xs.length ≤ sizeLine)
    (h : ∀ x ∈ xs, ∃ ρ1, tgt (m x) (wipeE ρ vs) = some ρ1 ∧ tt ρ1 w1 = .ok (p x) w1 ∧ fe ρ1 w1 = .ok (m x) w1) : oLc fi tgt tt fe vs ρ w = .ok ((xs.filter p).map m) w1 := by
  have e := oLc_map (fi := fi) (tgt := tgt) (tt := tt) (fe := fe) (vs := vs) (ρ := ρ) m m p id hi hl fun x hx => by
    obtain ⟨ρ1, a, b, c⟩ := h x hx
    exact ⟨ρ1, a, b, fun _ => c⟩
  rwa [List.map_id] at e
theorem atI_lastQ {α : Type} {xs : List α} {v : α} (h : xs.getLast? = some v) : L2.atI xs (-1) = some v := by
  obtain ⟨ys, rfl⟩ := List.getLast?_eq_some_iff.mp h
  exact atI_last ys v
theorem atI_map_last {α β : Type} {xs : List α} {v : α} (m : α → β) (h : xs.getLast? = some v) : L2.atI (xs.map m) (-1) = some (m v) := atI_lastQ (by rw [List.getLast?_map, h]; rfl)
theorem atI_map {α β : Type} {xs : List α} {v : α} (m : α → β) {j : Nat} (h : xs[j]? = some v) : L2.atI (xs.map m) (j : Int) = some (m v) := atI_nat (by rw [List.getElem?_map, h]; rfl)
theorem mem_srtI {a : Int} {xs : List Int} : a ∈ srtI xs ↔ a ∈ xs := List.mem_mergeSort
theorem srtI_len (xs : List Int) : (srtI xs).length = xs.length := List.length_mergeSort xs
/-- next to next -/
def asc (xs : List Int) : Bool := (List.range (xs.length - 1)).all fun k => decide (xs.getD k 0 < xs.getD (k + 1) 0)
theorem asc_iff : ∀ xs : List Int, asc xs = true ↔ xs.Pairwise (· < ·)
  | [] => by simp [asc]
  | [x] => by simp [asc]
  | x :: y :: r => by
    have ih := asc_iff (y :: r)
    have e : asc (x :: y :: r) = (decide (x < y) && asc (y :: r)) := by
      show (List.range (r.length + 1)).all _ = _
      rw [List.range_succ_eq_map, List.all_cons, List.all_map]
      rfl
    rw [e, Bool.and_eq_true, decide_eq_true_eq, ih, List.pairwise_cons (a := x)]
    constructor
    · rintro ⟨h1, h2⟩
      refine ⟨fun z hz => ?_, h2⟩
      rcases List.mem_cons.mp hz with rfl | hz
      · exact h1
      · exact Int.lt_trans h1 ((List.pairwise_cons.mp h2).1 z hz)
    · rintro ⟨h1, h2⟩
      exact ⟨h1 y List.mem_cons_self, h2⟩
theorem asc_srt (xs : List Int) : asc (srtI xs) = decide xs.Nodup := by
  rw [Bool.eq_iff_iff, asc_iff, decide_eq_true_eq]
  have hp : (srtI xs).Perm xs := List.mergeSort_perm xs _
  have hs : (srtI xs).Pairwise (· ≤ ·) := by
    have := List.pairwise_mergeSort (le := fun a b : Int => decide (a ≤ b)) (fun a b c h1 h2 => decide_eq_true (Int.le_trans (of_decide_eq_true h1) (of_decide_eq_true h2))) (fun a b => by rcases Int.le_total a b with h | h <;> simp [h]) xs
    exact this.imp fun h => of_decide_eq_true h
  constructor
  · intro h
    exact hp.nodup_iff.mp (h.imp fun h => Int.ne_of_lt h)
  · intro h
    have h : (srtI xs).Pairwise (· ≠ ·) := hp.nodup_iff.mpr h
    exact (hs.and h).imp fun ⟨a, b⟩ => by omega
theorem oLc2_mapT {α β γ : Type} {fi fi1 : Ev → Wd → R (List D)} {tgt tgt1 : Tg} {fe : Ef} {vs vs1 : List Nat} {ρ : Ev} {w w1 : Wd} {xs : List α} (m : α → D) (m1 : β → D) (n : γ → D) (g : α → List β) (h : α → β → γ) (hi : fi ρ w = .ok (xs.map m) w1)
    (hl : (xs.flatMap fun x => (g x).map (h x)).length ≤ sizeLine)
    (H : ∀ x ∈ xs, ∃ ρ1, tgt (m x) (wipeE ρ vs) = some ρ1 ∧ fi1 ρ1 w1 = .ok ((g x).map m1) w1 ∧ ∀ y ∈ g x, ∃ ρ2, tgt1 (m1 y) (wipeE ρ1 vs1) = some ρ2 ∧ fe ρ2 w1 = .ok (n (h x y)) w1) :
    oLc2 fi tgt oYes fi1 tgt1 oYes fe vs vs1 ρ w = .ok ((xs.flatMap fun x => (g x).map (h x)).map n) w1 := by
  unfold oLc2 fit
  rw [hi, bind_ok]
  have : ∀ xs : List α, (∀ x ∈ xs, ∃ ρ1, tgt (m x) (wipeE ρ vs) = some ρ1 ∧ fi1 ρ1 w1 = .ok ((g x).map m1) w1 ∧ ∀ y ∈ g x, ∃ ρ2, tgt1 (m1 y) (wipeE ρ1 vs1) = some ρ2 ∧ fe ρ2 w1 = .ok (n (h x y)) w1) →
      lc2L tgt oYes fi1 tgt1 oYes fe vs1 (wipeE ρ vs) (xs.map m) w1 = .ok ((xs.flatMap fun x => (g x).map (h x)).map n) w1 := fun xs => by
    induction xs with
    | nil => intro _; rfl
    | cons x xs ih =>
      intro H
      obtain ⟨ρ1, h1, h2, h3⟩ := H x List.mem_cons_self
      have ih := ih fun y hy => H y (List.mem_cons_of_mem _ hy)
      have inner : ∀ ys : List β, (∀ y ∈ ys, ∃ ρ2, tgt1 (m1 y) (wipeE ρ1 vs1) = some ρ2 ∧ fe ρ2 w1 = .ok (n (h x y)) w1) → lcL tgt1 oYes fe (wipeE ρ1 vs1) (ys.map m1) w1 = .ok ((ys.map (h x)).map n) w1 := fun ys => by
        induction ys with
        | nil => intro _; rfl
        | cons y ys ih2 =>
          intro H2
          obtain ⟨ρ2, k1, k2⟩ := H2 y List.mem_cons_self
          rw [List.map_cons]
          unfold lcL
          rw [k1]
          dsimp only
          rw [u_oYes, bind_ok, if_pos rfl, k2, bind_ok, ih2 fun z hz => H2 z (List.mem_cons_of_mem _ hz), bind_ok]
          rfl
      rw [List.map_cons]
      unfold lc2L
      rw [h1]
      dsimp only
      rw [u_oYes, bind_ok, if_pos rfl, h2, bind_ok, inner _ h3, bind_ok, ih, bind_ok, List.flatMap_cons, List.map_append]
  rw [this xs H, bind_ok, List.nil_append, if_pos (by rw [List.length_map]; exact hl), calm_ok]
theorem rgS {i : Int} (h1 : -1000000 ≤ i) (h2 : i ≤ 1000000) : rgOk i = true := by simp [rgOk]; omega
theorem iR1_ok {fa : Ef} {ρ : Ev} {w w1 : Wd} {j : Int} (ha : fa ρ w = .ok (.int j) w1) (h1 : -1000000 ≤ j) (h2 : j ≤ 1000000) : iR1 fa ρ w = .ok ((List.range j.toNat).map nD) w1 := by
  have e : iR1 fa ρ w = if rgOk j = true then .ok (intsD 0 j.toNat) w1 else .bad := by unfold iR1; rw [ha]; rfl
  rw [e, if_pos (rgS h1 h2), ints0]
theorem iR2_ok {fa fb : Ef} {ρ : Ev} {w w1 w2 : Wd} {i j : Int} (ha : fa ρ w = .ok (.int i) w1) (hb : fb ρ w1 = .ok (.int j) w2) (h1 : -1000000 ≤ i) (h2 : i ≤ 1000000) (h3 : -1000000 ≤ j) (h4 : j ≤ 1000000) :
    iR2 fa fb ρ w = .ok ((List.range (j - i).toNat).map fun (k : Nat) => PyData.int (i + (k : Int))) w2 := by
  have e : iR2 fa fb ρ w = if (rgOk i && rgOk j) = true then .ok (intsD i (j - i).toNat) w2 else .bad := by unfold iR2; rw [ha, bind_ok, hb]; rfl
  rw [e, if_pos (by rw [rgS h1 h2, rgS h3 h4]; rfl), intsD_eq]
/-! ### rows of whole numbers -/
def ltB : List Int → List Int → Bool
  | [], [] => false
  | [], _ :: _ => true
  | _ :: _, [] => false
  | x :: xs, y :: ys => decide (x < y) || (decide (x = y) && ltB xs ys)
theorem ltB_eq : ∀ xs ys : List Int, ltB xs ys = decide (xs < ys)
  | [], [] => by simp [ltB]
  | [], y :: ys => by simp [ltB]
  | x :: xs, [] => by simp [ltB]
  | x :: xs, y :: ys => by
    rw [ltB, ltB_eq xs ys]
    by_cases h : x = y
    · simp [h, List.cons_lt_cons_iff]
    · simp [h, List.cons_lt_cons_iff]
def tR (xs : List Int) : D := .tuple (xs.map .int)
theorem dataLt_tR (xs ys : List Int) : dataLt (tR xs) (tR ys) = ltB xs ys := by
  unfold tR
  rw [dataLt_tuple, ltB_eq]
  exact dataLt_ints xs ys
def minR (x : List Int) (xs : List (List Int)) : List Int := xs.foldl (fun a y => if ltB y a = true then y else a) x
theorem minD_rows (x : List Int) (xs : List (List Int)) : minD (tR x) (xs.map tR) = tR (minR x xs) := by
  unfold minD minR
  induction xs generalizing x with
  | nil => rfl
  | cons y ys ih =>
    rw [List.map_cons, List.foldl_cons, List.foldl_cons, dataLt_tR, ← ih]
    cases ltB y x <;> rfl
theorem plain_tR (xs : List Int) : (tR xs).plain = true := by unfold tR; rw [PyData.plain]; exact plain_ints xs
theorem plain_rows (xs : List (List Int)) : PyData.plainAll (xs.map tR) = true := by
  induction xs with
  | nil => rfl
  | cons x xs ih => rw [List.map_cons, PyData.plainAll, plain_tR, ih]; rfl
theorem depth_tR (xs : List Int) : (tR xs).depth = 1 := by unfold tR; rw [PyData.depth, depth_ints]
theorem depth_rows (xs : List (List Int)) : PyData.depthAll (xs.map tR) ≤ 1 := by
  induction xs with
  | nil => exact Nat.zero_le _
  | cons x xs ih => rw [List.map_cons, PyData.depthAll, depth_tR]; omega
theorem alike_tR (xs ys : List Int) : alike (tR xs) (tR ys) = true := by unfold tR; rw [alike]; exact alike_ints xs ys
theorem mmOk_rows (xs : List (List Int)) : mmOk (xs.map tR) = true := by
  unfold mmOk alikeAllB
  rw [plain_rows]
  have := depth_rows xs
  simp only [List.all_map, Bool.and_true, Bool.and_eq_true, decide_eq_true_eq, List.all_eq_true]
  exact ⟨⟨fun x _ => List.all_eq_true.mpr fun y _ => alike_tR x y, fun x _ => rfl⟩, by omega⟩
theorem gMin_rows (x : List Int) (xs : List (List Int)) : gMin [.list ((x :: xs).map tR)] = some (tR (minR x xs)) := by
  show (if mmOk ((x :: xs).map tR) = true then some (minD (tR x) (xs.map tR)) else none) = _
  rw [if_pos (mmOk_rows _), minD_rows]
/-! ### enumerate -/
theorem enumD_map {α : Type} (m : α → D) (xs : List α) : enumD (xs.map m) = xs.zipIdx.map fun p => PyData.tuple [nD p.2, m p.1] := by
  unfold enumD nD
  rw [List.mapIdx_eq_zipIdx_map, List.zipIdx_map, List.map_map]
  rfl
theorem zipIdx_split {α : Type} {xs : List α} {p q : List (α × Nat)} {x : α × Nat} (h : xs.zipIdx = p ++ x :: q) : p.length < xs.length ∧ x.2 = p.length ∧ xs[p.length]? = some x.1 := by
  have e : xs.zipIdx[p.length]? = some x := by rw [h]; simp
  rw [List.getElem?_zipIdx] at e
  cases g : xs[p.length]? with
  | none => rw [g] at e; cases e
  | some y =>
    rw [g] at e
    have e := Option.some.inj e
    have : p.length < xs.length := by
      rcases Nat.lt_or_ge p.length xs.length with z | z
      · exact z
      · rw [List.getElem?_eq_none z] at g; cases g
    refine ⟨this, ?_, ?_⟩
    · rw [← e]; simp
    · rw [← e]
theorem cut_take {α : Type} (xs : List α) (k : Nat) : DL.cut xs none (some (k : Int)) = xs.take k := by
  unfold DL.cut
  have e1 : HT.sIx xs.length 0 none = 0 := rfl
  have e2 : HT.sIx xs.length xs.length (some (k : Int)) = min k xs.length := by
    simp [HT.sIx]
    omega
  rw [e1, e2, List.drop_zero, Nat.sub_zero, ← List.take_eq_take_min]
end DM

set_option Elab.async false
set_option linter.all false
set_option maxRecDepth 100000
set_option maxHeartbeats 4000000
/-! DM2: a dict that counts -/
namespace DM
open PySem PySem.Spec L2 DL DG PyProof.Rows PySem.W
def cntD (K ks : List Int) : List (D × D) := K.map fun k => (.int k, .int ((ks.count k : Nat) : Int))
structure CntOk (K ks : List Int) : Prop where
  mem : ∀ k, k ∈ K ↔ k ∈ ks
  len : K.length ≤ ks.length
theorem cnt_any (K ks : List Int) (d : Int) : ((cntD K ks).any fun p => isKey (.inl d) p.1) = decide (d ∈ K) := by
  unfold cntD
  rw [List.any_map, Bool.eq_iff_iff, List.any_eq_true, decide_eq_true_eq]
  constructor
  · rintro ⟨k, hk, e⟩
    have e : decide (k = d) = true := e
    rw [← of_decide_eq_true e]; exact hk
  · exact fun h => ⟨d, h, decide_eq_true rfl⟩
theorem cnt_val (K ks : List Int) (d : Int) : valD (cntD K ks) (.inl d) = if d ∈ K then some (.int ((ks.count d : Nat) : Int)) else none := by
  unfold valD cntD
  induction K with
  | nil => rfl
  | cons k K ih =>
    rw [List.map_cons, List.find?_cons]
    by_cases h : k = d
    · subst h
      have : isKey (.inl k) (PyData.int k) = true := decide_eq_true rfl
      rw [this]
      simp
    · have : isKey (.inl d) (PyData.int k) = false := decide_eq_false h
      dsimp only
      rw [this]
      dsimp only
      rw [ih]
      have : (d ∈ k :: K) ↔ d ∈ K := by
        rw [List.mem_cons]
        exact ⟨fun q => q.resolve_left fun q => h q.symm, .inr⟩
      by_cases hk : d ∈ K
      · rw [if_pos hk, if_pos (this.mpr hk)]
      · rw [if_neg hk, if_neg fun q => hk (this.mp q)]
theorem cnt_get {K ks : List Int} (h : CntOk K ks) (d : Int) : (valD (cntD K ks) (.inl d)).getD (.int 0) = .int ((ks.count d : Nat) : Int) := by
  rw [cnt_val]
  by_cases q : d ∈ K
  · rw [if_pos q]; rfl
  · rw [if_neg q, List.count_eq_zero_of_not_mem fun z => q ((h.mem d).mpr z)]
    rfl
theorem cnt_put {K ks : List Int} (h : CntOk K ks) (d : Int) : ∃ K', CntOk K' (ks ++ [d]) ∧ putD (cntD K ks) (.inl d) (.int (((ks.count d : Nat) : Int) + 1)) = cntD K' (ks ++ [d]) := by
  unfold putD
  rw [cnt_any]
  by_cases q : d ∈ K
  · refine ⟨K, ⟨fun k => ?_, by rw [List.length_append]; have := h.len; omega⟩, ?_⟩
    · rw [List.mem_append, List.mem_singleton, h.mem]
      exact ⟨.inl, fun z => z.elim id fun z => by rw [z]; exact (h.mem d).mp q⟩
    · rw [if_pos (decide_eq_true q)]
      unfold cntD
      rw [List.map_map]
      refine List.map_congr_left fun k hk => ?_
      show (if decide (k = d) = true then ((PyData.int k, PyData.int (((ks.count d : Nat) : Int) + 1)) : D × D) else (.int k, .int ((ks.count k : Nat) : Int))) = _
      by_cases e : k = d
      · subst e
        simp [List.count_append]
      · simp [e, List.count_append, List.count_singleton, Ne.symm e]
  · refine ⟨K ++ [d], ⟨fun k => ?_, by rw [List.length_append, List.length_append]; have := h.len; simp; exact this⟩, ?_⟩
    · rw [List.mem_append, List.mem_append, h.mem]
    · rw [if_neg (by simp [q])]
      have hz : ks.count d = 0 := List.count_eq_zero_of_not_mem fun z => q ((h.mem d).mpr z)
      unfold cntD
      rw [List.map_append, hz]
      congr 1
      · refine List.map_congr_left fun k hk => ?_
        have e : d ≠ k := fun e => q (e ▸ hk)
        simp [List.count_append, List.count_singleton, e]
      · simp [DL.keyD, List.count_append, hz]
end DM

set_option Elab.async false
set_option linter.all false
set_option maxRecDepth 100000
set_option maxHeartbeats 4000000
/-! DQ1: exact fractions -/
namespace DQ
open PySem PySem.Spec L2 DL DG PyProof.Rows PySem.W DM
def qD (r : Rat) : D := .tuple [.int r.num, .int (r.den : Int)]
/-- of at most n bits -/
def Bd (n : Nat) (i : Int) : Prop := i.natAbs < 2 ^ n
structure Sz (n : Nat) (r : Rat) : Prop where
  num : Bd n r.num
  den : Bd n (r.den : Int)
theorem log2_bd {n k : Nat} (hk : k < 2 ^ n) (hn : 0 < n) : k.log2 < n := by
  by_cases h : k = 0
  · subst h; simpa using hn
  · exact (Nat.log2_lt h).mpr hk
theorem Bd.mono {n m : Nat} {i : Int} (h : Bd n i) (l : n ≤ m) : Bd m i := Nat.lt_of_lt_of_le h (Nat.pow_le_pow_right (by decide) l)
theorem Bd.mul {n m : Nat} {i j : Int} (h : Bd n i) (g : Bd m j) : Bd (n + m) (i * j) := by
  unfold Bd at *
  rw [Int.natAbs_mul, Nat.pow_add]
  exact Nat.mul_lt_mul'' h g
theorem Bd.add {n m : Nat} {i j : Int} (h : Bd n i) (g : Bd n j) : Bd (n + 1) (i + j) := by
  unfold Bd at *
  have := Int.natAbs_add_le i j
  rw [Nat.pow_succ]
  omega
theorem Bd.sub {n m : Nat} {i j : Int} (h : Bd n i) (g : Bd n j) : Bd (n + 1) (i - j) := by
  unfold Bd at *
  have := Int.natAbs_sub_le i j
  rw [Nat.pow_succ]
  omega
theorem dMul_bd {n : Nat} {i j : Int} (hn : n ≤ 4000) (h : Bd n i) (g : Bd n j) : dMul (.int i) (.int j) = some (.int (i * j)) := by
  show (if mulOk i j = true then some (PyData.int (i * j)) else none) = _
  rw [if_pos]
  unfold mulOk
  have h1 : i.natAbs.log2 < n + 1 := log2_bd (Bd.mono h (Nat.le_succ n)) (Nat.succ_pos n)
  have h2 : j.natAbs.log2 < n + 1 := log2_bd (Bd.mono g (Nat.le_succ n)) (Nat.succ_pos n)
  have : decide (i.natAbs.log2 + j.natAbs.log2 < 1000000) = true := decide_eq_true (by omega)
  rw [this]
  simp
theorem dFdiv_bd {n : Nat} {i j : Int} (hn : n ≤ 8000) (hj : 0 < j) (h : Bd n j) : dFdiv (.int i) (.int j) = some (.int (Int.fdiv i j)) := by
  show (if divOk i j = true then some (PyData.int (Int.fdiv i j)) else none) = _
  rw [if_pos]
  unfold divOk
  have h1 : j.natAbs.log2 < n + 1 := log2_bd (Bd.mono h (Nat.le_succ n)) (Nat.succ_pos n)
  have a : decide (j ≠ 0) = true := decide_eq_true (by omega)
  have b : decide (j.natAbs.log2 < 9000) = true := decide_eq_true (by omega)
  have c : decide (0 < j) = true := decide_eq_true hj
  rw [a, b, c]
  simp
theorem fdiv_nat (i : Int) (g : Nat) : Int.fdiv i (g : Int) = i / (g : Int) := Int.fdiv_eq_ediv_of_nonneg i (by omega)
theorem qD_mk (p : Int) (q : Nat) (hq : 0 < q) : qD (mkRat p q) = .tuple [.int (p / ((Nat.gcd p.natAbs q : Nat) : Int)), .int ((q / Nat.gcd p.natAbs q : Nat) : Int)] := by
  unfold qD
  rw [Rat.num_mkRat, Rat.den_mkRat, if_neg (by omega), if_neg (by omega), Nat.gcd_comm q]
theorem bd_gcd {n q : Nat} (p : Int) (hq : 0 < q) (h : Bd n (q : Int)) : Bd n ((Nat.gcd p.natAbs q : Nat) : Int) := by
  unfold Bd at *
  have h2 : Nat.gcd p.natAbs q ≤ q := Nat.le_of_dvd hq (Nat.gcd_dvd_right p.natAbs q)
  show ((Nat.gcd p.natAbs q : Nat) : Int).natAbs < 2 ^ n
  rw [Int.natAbs_natCast] at *
  omega
def f_lowest : Sf := (sSeq (sAsg (eCall gGcd (lC (eBw 0) (lC (eBw 1) lN))) (gN 2))
  (sSeq (sIf (tCm dLt (eBw 1) (eC (.int 0))) (sAsg (eNeg (eBw 2)) (gN 2)) sNil)
  (sRet (eTup (lC (eBin dFdiv (eBw 0) (eBw 2)) (lC (eBin dFdiv (eBw 1) (eBw 2)) lN))))))
theorem s_lowest (p : Int) (q : Nat) (w : Wd) {n : Nat} (hn : n ≤ 8000) (hq : 0 < q) (hb : Bd n (q : Int)) : fnD 2 3 f_lowest [.v (.int p), .v (.int q)] w = .ok (qD (mkRat p q)) w := by
  rw [fnD_eq]
  unfold f_lowest
  have hg : 0 < Nat.gcd p.natAbs q := Nat.gcd_pos_of_pos_right _ hq
  have e : gGcd [.int p, .int (q : Int)] = some (.int ((Nat.gcd p.natAbs q : Nat) : Int)) := by simp [gGcd]
  have e1 := dFdiv_bd (i := p) hn (by omega : (0 : Int) < ((Nat.gcd p.natAbs q : Nat) : Int)) (bd_gcd p hq hb)
  have e2 := dFdiv_bd (i := (q : Int)) hn (by omega : (0 : Int) < ((Nat.gcd p.natAbs q : Nat) : Int)) (bd_gcd p hq hb)
  rw [fdiv_nat] at e1 e2
  have hl : ¬ ((q : Int) < 0) := by omega
  simp only [u_sSeq, u_sAsg, u_eCall, u_lC, u_eBw, u_ent, List.map_cons, List.map_nil, List.cons_append, List.nil_append, List.getElem?_cons_zero, List.getElem?_cons_succ, bind_ok, u_lN, e, of_some, bindS_ok, u_gN, List.length_cons, List.length_nil, List.length_replicate, Nat.reduceSub, List.replicate, Nat.reduceAdd, Nat.reduceLT, if_true, ofO_some, seqK_nx,
    List.set_cons_succ, List.set_cons_zero, u_sIf, u_tCm, u_eC, u_ltI, Option.bind_some, u_bOfb, decide_eq_false hl, Bool.false_eq_true, if_false, u_sNil, u_sRet, u_eTup, u_eBin, e1, e2]
  rw [if_pos (by rw [big]; omega), bindS_ok, fnR_rt, qD_mk p q hq]
  rw [Int.natCast_ediv]
theorem sz_mk {n : Nat} {p : Int} {q : Nat} (hp : Bd n p) (hq : Bd n (q : Int)) (h0 : 0 < q) : Sz n (mkRat p q) := by
  have hg : 0 < Nat.gcd p.natAbs q := Nat.gcd_pos_of_pos_right _ h0
  unfold Bd at hp hq
  constructor
  · unfold Bd
    rw [Rat.num_mkRat, if_neg (by omega), Nat.gcd_comm q]
    refine Nat.lt_of_le_of_lt ?_ hp
    have := Int.natAbs_ediv_le_natAbs p ((Nat.gcd p.natAbs q : Nat) : Int)
    exact this
  · unfold Bd
    rw [Rat.den_mkRat, if_neg (by omega), Int.natAbs_natCast]
    rw [Int.natAbs_natCast] at hq
    exact Nat.lt_of_le_of_lt (Nat.div_le_self _ _) hq
theorem add_mk (a b : Rat) : a + b = mkRat (a.num * (b.den : Int) + b.num * (a.den : Int)) (a.den * b.den) := by rw [Rat.add_def, Rat.normalize_eq_mkRat]
theorem sub_mk (a b : Rat) : a - b = mkRat (a.num * (b.den : Int) - b.num * (a.den : Int)) (a.den * b.den) := by rw [Rat.sub_def, Rat.normalize_eq_mkRat]
theorem mul_mk (a b : Rat) : a * b = mkRat (a.num * b.num) (a.den * b.den) := by rw [Rat.mul_def, Rat.normalize_eq_mkRat]
theorem Sz.mono {n m : Nat} {r : Rat} (h : Sz n r) (l : n ≤ m) : Sz m r := ⟨h.num.mono l, h.den.mono l⟩
theorem Sz.add {n m : Nat} {a b : Rat} (h : Sz n a) (g : Sz m b) : Sz (n + m + 1) (a + b) := by
  rw [add_mk]
  refine sz_mk (Bd.add (n := n + m) (m := 0) (h.num.mul g.den) (by have := g.num.mul h.den; rwa [Nat.add_comm] at this)) ?_ (Nat.mul_pos a.den_pos b.den_pos)
  rw [Int.natCast_mul]
  exact (h.den.mul g.den).mono (Nat.le_succ _)
theorem Sz.sub {n m : Nat} {a b : Rat} (h : Sz n a) (g : Sz m b) : Sz (n + m + 1) (a - b) := by
  rw [sub_mk]
  refine sz_mk (Bd.sub (n := n + m) (m := 0) (h.num.mul g.den) (by have := g.num.mul h.den; rwa [Nat.add_comm] at this)) ?_ (Nat.mul_pos a.den_pos b.den_pos)
  rw [Int.natCast_mul]
  exact (h.den.mul g.den).mono (Nat.le_succ _)
theorem Sz.mul {n m : Nat} {a b : Rat} (h : Sz n a) (g : Sz m b) : Sz (n + m) (a * b) := by
  rw [mul_mk]
  refine sz_mk (h.num.mul g.num) ?_ (Nat.mul_pos a.den_pos b.den_pos)
  rw [Int.natCast_mul]
  exact h.den.mul g.den
theorem qD_int (i : Int) : qD (i : Rat) = .tuple [.int i, .int 1] := rfl
theorem sz_int {n : Nat} {i : Int} (h : Bd n i) (h1 : 0 < n) : Sz n (i : Rat) := ⟨h, by unfold Bd; exact Nat.one_lt_two_pow (by omega)⟩
abbrev f_plus (ml : List Sl → Wd → R D) : Sf := (sRet (eCallF 2 ml (aCons (eBin dAdd (eBin dMul (eBin dIx (eBw 0) (eC (.int 0))) (eBin dIx (eBw 1) (eC (.int 1)))) (eBin dMul (eBin dIx (eBw 1) (eC (.int 0))) (eBin dIx (eBw 0) (eC (.int 1))))) (aCons (eBin dMul (eBin dIx (eBw 0) (eC (.int 1))) (eBin dIx (eBw 1) (eC (.int 1)))) aNil))))
abbrev f_minus (ml : List Sl → Wd → R D) : Sf := (sRet (eCallF 2 ml (aCons (eBin dSub (eBin dMul (eBin dIx (eBw 0) (eC (.int 0))) (eBin dIx (eBw 1) (eC (.int 1)))) (eBin dMul (eBin dIx (eBw 1) (eC (.int 0))) (eBin dIx (eBw 0) (eC (.int 1))))) (aCons (eBin dMul (eBin dIx (eBw 0) (eC (.int 1))) (eBin dIx (eBw 1) (eC (.int 1)))) aNil))))
abbrev f_times (ml : List Sl → Wd → R D) : Sf := (sRet (eCallF 2 ml (aCons (eBin dMul (eBin dIx (eBw 0) (eC (.int 0))) (eBin dIx (eBw 1) (eC (.int 0)))) (aCons (eBin dMul (eBin dIx (eBw 0) (eC (.int 1))) (eBin dIx (eBw 1) (eC (.int 1)))) aNil))))
theorem ix0 (r : Rat) : dIx (qD r) (.int 0) = some (.int r.num) := rfl
theorem ix1 (r : Rat) : dIx (qD r) (.int 1) = some (.int (r.den : Int)) := rfl
/-- what a def of lowest terms does -/
def LowOk (N : Nat) (ml : List Sl → Wd → R D) : Prop := ∀ (p : Int) (q : Nat) (w : Wd), 0 < q → Bd N p → Bd N (q : Int) → ml [.v (.int p), .v (.int q)] w = .ok (qD (mkRat p q)) w
theorem s_plus {ml : List Sl → Wd → R D} {N : Nat} (hl : LowOk N ml) (hN : N ≤ 4000) {n m : Nat} {a b : Rat} (ha : Sz n a) (hb : Sz m b) (hnm : n + m + 1 ≤ N) (w : Wd) : fnD 2 2 (f_plus ml) [.v (qD a), .v (qD b)] w = .ok (qD (a + b)) w := by
  rw [fnD_eq]
  have e1 := dMul_bd (n := N) hN (ha.num.mono (by omega)) (hb.den.mono (by omega))
  have e2 := dMul_bd (n := N) hN (hb.num.mono (by omega)) (ha.den.mono (by omega))
  have e3 := dMul_bd (n := N) hN (ha.den.mono (by omega)) (hb.den.mono (by omega))
  have l := hl (a.num * (b.den : Int) + b.num * (a.den : Int)) (a.den * b.den) w (Nat.mul_pos a.den_pos b.den_pos)
    (Bd.mono (Bd.add (n := n + m) (m := 0) (ha.num.mul hb.den) (by have := hb.num.mul ha.den; rwa [Nat.add_comm] at this)) hnm) (by rw [Int.natCast_mul]; exact (ha.den.mul hb.den).mono (by omega))
  rw [← add_mk, Int.natCast_mul] at l
  simp [ix0, ix1, e1, e2, e3, l]
theorem s_minus {ml : List Sl → Wd → R D} {N : Nat} (hl : LowOk N ml) (hN : N ≤ 4000) {n m : Nat} {a b : Rat} (ha : Sz n a) (hb : Sz m b) (hnm : n + m + 1 ≤ N) (w : Wd) : fnD 2 2 (f_minus ml) [.v (qD a), .v (qD b)] w = .ok (qD (a - b)) w := by
  rw [fnD_eq]
  have e1 := dMul_bd (n := N) hN (ha.num.mono (by omega)) (hb.den.mono (by omega))
  have e2 := dMul_bd (n := N) hN (hb.num.mono (by omega)) (ha.den.mono (by omega))
  have e3 := dMul_bd (n := N) hN (ha.den.mono (by omega)) (hb.den.mono (by omega))
  have l := hl (a.num * (b.den : Int) - b.num * (a.den : Int)) (a.den * b.den) w (Nat.mul_pos a.den_pos b.den_pos)
    (Bd.mono (Bd.sub (n := n + m) (m := 0) (ha.num.mul hb.den) (by have := hb.num.mul ha.den; rwa [Nat.add_comm] at this)) hnm) (by rw [Int.natCast_mul]; exact (ha.den.mul hb.den).mono (by omega))
  rw [← sub_mk, Int.natCast_mul] at l
  simp [ix0, ix1, e1, e2, e3, l]
theorem s_times {ml : List Sl → Wd → R D} {N : Nat} (hl : LowOk N ml) (hN : N ≤ 4000) {n m : Nat} {a b : Rat} (ha : Sz n a) (hb : Sz m b) (hnm : n + m ≤ N) (w : Wd) : fnD 2 2 (f_times ml) [.v (qD a), .v (qD b)] w = .ok (qD (a * b)) w := by
  rw [fnD_eq]
  have e1 := dMul_bd (n := N) hN (ha.num.mono (by omega)) (hb.num.mono (by omega))
  have e3 := dMul_bd (n := N) hN (ha.den.mono (by omega)) (hb.den.mono (by omega))
  have l := hl (a.num * b.num) (a.den * b.den) w (Nat.mul_pos a.den_pos b.den_pos)
    (Bd.mono (ha.num.mul hb.num) hnm) (by rw [Int.natCast_mul]; exact (ha.den.mul hb.den).mono (by omega))
  rw [← mul_mk, Int.natCast_mul] at l
  simp [ix0, ix1, e1, e3, l]
abbrev f_less : Sf := (sRet (eBin dLt (eBin dMul (eBin dIx (eBw 0) (eC (.int 0))) (eBin dIx (eBw 1) (eC (.int 1)))) (eBin dMul (eBin dIx (eBw 1) (eC (.int 0))) (eBin dIx (eBw 0) (eC (.int 1))))))
theorem s_less {n : Nat} {a b : Rat} (ha : Sz n a) (hb : Sz n b) (hn : n ≤ 4000) (w : Wd) : fnD 2 2 f_less [.v (qD a), .v (qD b)] w = .ok (.bool (decide (a < b))) w := by
  rw [fnD_eq]
  have e1 := dMul_bd (n := n) hn ha.num hb.den
  have e2 := dMul_bd (n := n) hn hb.num ha.den
  simp [ix0, ix1, e1, e2, Rat.lt_iff]
theorem qD_inj {a b : Rat} : qD a = qD b ↔ a = b := by
  constructor
  · intro h
    unfold qD at h
    injection h with h
    injection h with h1 h2
    injection h1 with h1
    injection h2 with h2 _
    injection h2 with h2
    exact Rat.ext h1 (by omega)
  · intro h; rw [h]
theorem plain_qD (a : Rat) : (qD a).plain = true := rfl
theorem depth_qD (a : Rat) : (qD a).depth = 1 := rfl
theorem eqv_qD (a b : Rat) : PyData.eqv (qD a) (qD b) = decide (a = b) := by
  have : PyData.eqv (qD a) (qD b) = (decide (a.num = b.num) && (decide ((a.den : Int) = (b.den : Int)) && true)) := by
    simp [qD, PyData.eqv, PyData.eqvAll]
    rfl
  rw [this, Bool.eq_iff_iff]
  simp only [Bool.and_eq_true, decide_eq_true_eq, and_true]
  constructor
  · rintro ⟨h1, h2⟩; exact Rat.ext h1 (by omega)
  · intro h; subst h; exact ⟨rfl, rfl⟩
theorem dEq_qD (a b : Rat) : dEq (qD a) (qD b) = some (.bool (decide (a = b))) := by
  unfold dEq eqOk
  rw [plain_qD, plain_qD, depth_qD, depth_qD, eqv_qD]
  rfl
theorem dNe_qD (a b : Rat) : dNe (qD a) (qD b) = some (.bool (!decide (a = b))) := by
  unfold dNe eqOk
  rw [plain_qD, plain_qD, depth_qD, depth_qD, eqv_qD]
  rfl
end DQ

set_option Elab.async false
set_option linter.all false
set_option maxRecDepth 100000
set_option maxHeartbeats 4000000
/-! DQ2: the law's own fractions -/
namespace DQ
open PySem PySem.Spec L2 DL DG PyProof.Rows PySem.W DM
def euc : Nat → Nat → Nat → Nat
  | 0, a, _ => a
  | m + 1, a, b => if b = 0 then a else euc m b (a % b)
theorem mod_half {a b : Nat} (h : 0 < b) : a % b < b ∧ (0 < a % b → 2 * (b % (a % b)) < b) := by
  have h1 : a % b < b := Nat.mod_lt a h
  refine ⟨h1, fun h2 => ?_⟩
  have h3 : b % (a % b) < a % b := Nat.mod_lt b h2
  by_cases h4 : 2 * (a % b) ≤ b
  · omega
  · have h5 : b % (a % b) = b - (a % b) := by
      rw [Nat.mod_eq_sub_mod (by omega), Nat.mod_eq_of_lt (by omega)]
    omega
theorem euc_gcd : ∀ n m a b : Nat, b < 2 ^ n → 2 * n ≤ m → euc m a b = Nat.gcd a b
  | 0, m, a, b, hb, hm => by
    have : b = 0 := by simpa using hb
    subst this
    rw [Nat.gcd_zero_right]
    cases m <;> simp [euc]
  | n + 1, m, a, b, hb, hm => by
    obtain ⟨m, rfl⟩ : ∃ k, m = k + 2 := ⟨m - 2, by omega⟩
    unfold euc
    by_cases h0 : b = 0
    · rw [if_pos h0, h0, Nat.gcd_zero_right]
    · rw [if_neg h0]
      unfold euc
      have g1 : Nat.gcd a b = Nat.gcd b (a % b) := by rw [Nat.gcd_comm a b, Nat.gcd_rec, Nat.gcd_comm]
      obtain ⟨h1, h2⟩ := mod_half (a := a) (Nat.pos_of_ne_zero h0)
      by_cases h3 : a % b = 0
      · rw [if_pos h3, g1, h3, Nat.gcd_zero_right]
      · rw [if_neg h3, g1]
        have g2 : Nat.gcd b (a % b) = Nat.gcd (a % b) (b % (a % b)) := by rw [Nat.gcd_comm b, Nat.gcd_rec, Nat.gcd_comm]
        rw [g2]
        refine euc_gcd n m _ _ ?_ (by omega)
        have := h2 (Nat.pos_of_ne_zero h3)
        rw [Nat.pow_succ] at hb
        omega
abbrev eucB : Sf := (sSeq (sIf (tCm dEq (eBw 1) (eC (.int 0))) sBk sNil)
  (sSeq (sAsg (eBin dMod (eBw 0) (eBw 1)) (gN 3))
  (sSeq (sAsg (eV 1) (gN 0))
  (sAsg (eV 3) (gN 1)))))
theorem dMod_nat (a b : Nat) (h : b ≠ 0) : dMod (.int (a : Int)) (.int (b : Int)) = some (.int ((a % b : Nat) : Int)) := by
  show (if decide ((b : Int) ≠ 0) = true then some (PyData.int (Int.fmod a b)) else none) = _
  rw [if_pos (decide_eq_true (by omega)), Int.fmod_eq_emod_of_nonneg _ (by omega)]
  rfl
@[simp] theorem seqK_bk {ρ : Ev} {w : Wd} {g : Sf} : seqK (.bk ρ w) g = .bk ρ w := Eq.trans rfl rfl
@[simp] theorem seqK_ct {ρ : Ev} {w : Wd} {g : Sf} : seqK (.ct ρ w) g = .ct ρ w := Eq.trans rfl rfl
theorem dMod_natD (a b : Nat) (h : b ≠ 0) : dMod (nD a) (nD b) = some (nD (a % b)) := dMod_nat a b h
theorem dEq_nat0 (b : Nat) : dEq (nD b) (.int 0) = some (.bool (decide (b = 0))) := by
  unfold nD
  rw [dEq_int]
  congr 2
  exact decide_eq_decide.mpr (by omega)
theorem euc_for (w : Wd) : ∀ (xs : List Nat) (a b : Nat) (k r : Option Sl), ∃ (b' : Nat) (k' r' : Option Sl), forL (gN 2) eucB (xs.map nD) [some (.v (nD a)), some (.v (nD b)), k, r] w = .nx [some (.v (nD (euc xs.length a b))), some (.v (nD b')), k', r'] w
  | [], a, b, k, r => ⟨b, k, r, rfl⟩
  | x :: xs, a, b, k, r => by
    rw [List.map_cons]
    unfold forL
    simp only [u_gN, List.length_cons, List.length_nil, Nat.reduceAdd, Nat.reduceLT, if_true, List.set_cons_succ, List.set_cons_zero]
    by_cases h : b = 0
    · subst h
      refine ⟨0, some (.v (nD x)), r, ?_⟩
      simp [dEq_nat0, euc]
    · have hb : decide (b = 0) = false := decide_eq_false h
      obtain ⟨b', k', r', e⟩ := euc_for w xs b (a % b) (some (.v (nD x))) (some (.v (nD (a % b))))
      refine ⟨b', k', r', ?_⟩
      have e1 : eucB [some (.v (nD a)), some (.v (nD b)), some (.v (nD x)), r] w = .nx [some (.v (nD b)), some (.v (nD (a % b))), some (.v (nD x)), some (.v (nD (a % b)))] w := by
        simp [dEq_nat0, h, dMod_natD a b h]
      rw [e1]
      dsimp only
      rw [e]
      simp only [List.length_cons, euc, if_neg h]
abbrev f_greatest : Sf := (sSeq (sFor (iR1 (eC (.int 6000))) (gN 2) eucB)
  (sRet (eV 0)))
theorem r6000 {ρ : Ev} {w : Wd} : iR1 (eC (.int 6000)) ρ w = .ok ((List.range 6000).map nD) w := by
  rw [iR1_ok (j := 6000) (w1 := w) rfl (by omega) (by omega)]
  rfl
theorem s_greatest (a b : Nat) (w : Wd) {n : Nat} (hn : n ≤ 3000) (hb : b < 2 ^ n) : fnD 2 4 f_greatest [.v (nD a), .v (nD b)] w = .ok (nD (Nat.gcd a b)) w := by
  rw [fnD_eq]
  obtain ⟨b', k', r', e⟩ := euc_for w (List.range 6000) a b none none
  unfold f_greatest
  rw [u_sSeq, u_sFor, r6000, bindS_ok]
  simp only [u_ent, List.map_cons, List.map_nil, List.cons_append, List.nil_append, Nat.reduceSub, List.replicate]
  rw [e, euc_gcd n _ a b hb (by rw [List.length_range]; omega)]
  simp
/-- what a def of the greatest common part does -/
def GrtOk (N : Nat) (mg : List Sl → Wd → R D) : Prop := ∀ (a b : Nat) (w : Wd), b < 2 ^ N → mg [.v (nD a), .v (nD b)] w = .ok (nD (Nat.gcd a b)) w
abbrev f_llow (mg : List Sl → Wd → R D) : Sf := (sSeq (sAsg (eCallF 2 mg (aCons (eCall gAbs (lC (eBw 0) lN)) (aCons (eCall gAbs (lC (eBw 1) lN)) aNil))) (gN 2))
  (sSeq (sAsg (eIf (tCm dLt (eBw 1) (eC (.int 0))) (eNeg (eBw 2)) (eV 2)) (gN 2))
  (sRet (eTup (lC (eBin dFdiv (eBw 0) (eBw 2)) (lC (eBin dFdiv (eBw 1) (eBw 2)) lN))))))
theorem abs_nat (p : Int) : (if p < 0 then -p else p) = (p.natAbs : Int) := by split <;> omega
theorem s_llow {mg : List Sl → Wd → R D} {N : Nat} (hg : GrtOk N mg) (hN : N ≤ 8000) (p : Int) (q : Nat) (w : Wd) (hq : 0 < q) (hb : Bd N (q : Int)) : fnD 2 3 (f_llow mg) [.v (.int p), .v (.int q)] w = .ok (qD (mkRat p q)) w := by
  rw [fnD_eq]
  have h0 : 0 < Nat.gcd p.natAbs q := Nat.gcd_pos_of_pos_right _ hq
  have e1 := dFdiv_bd (i := p) hN (by omega : (0 : Int) < ((Nat.gcd p.natAbs q : Nat) : Int)) (bd_gcd p hq hb)
  have e2 := dFdiv_bd (i := (q : Int)) hN (by omega : (0 : Int) < ((Nat.gcd p.natAbs q : Nat) : Int)) (bd_gcd p hq hb)
  rw [fdiv_nat] at e1 e2
  have hl : ¬ ((q : Int) < 0) := by omega
  have e : mg [.v (.int (p.natAbs : Int)), .v (.int (q : Int))] w = .ok (.int ((Nat.gcd p.natAbs q : Nat) : Int)) w := hg p.natAbs q w (by unfold Bd at hb; rwa [Int.natAbs_natCast] at hb)
  simp only [u_sSeq, u_sAsg, u_eCallF, u_aCons, u_aNil, u_eCall, u_lC, u_eBw, u_ent, List.map_cons, List.map_nil, List.cons_append, List.nil_append, List.getElem?_cons_zero, List.getElem?_cons_succ, bind_ok, u_lN, u_absI, abs_nat, Int.natAbs_natCast, if_neg hl, e, of_some, bindS_ok, u_gN, List.length_cons, List.length_nil, Nat.reduceSub, List.replicate, Nat.reduceAdd, Nat.reduceLT, if_true, ofO_some, seqK_nx,
    List.set_cons_succ, List.set_cons_zero, u_eIf, u_tCm, u_eC, u_ltI, Option.bind_some, u_bOfb, decide_eq_false hl, Bool.false_eq_true, if_false, u_sRet, u_eTup, u_eBin, u_eV, e1, e2]
  rw [if_pos (by rw [big]; omega), bindS_ok, fnR_rt, qD_mk p q hq]
  rw [Int.natCast_ediv]
abbrev f_signed (ml : List Sl → Wd → R D) : Sf := (sSeq (sIf (tCm dEq (eBw 0) (eC (.int 0))) (sRet (eTup (lC (eC (.int 0)) (lC (eC (.int 1)) lN)))) sNil)
  (sSeq (sAsg (eCallF 2 ml (aCons (eIf (tCm dGt (eBw 0) (eC (.int 0))) (eV 0) (eNeg (eBw 0))) (aCons (eV 1) aNil))) (gN 2))
  (sRet (eTup (lC (eIf (tCm dGt (eBw 0) (eC (.int 0))) (eBin dIx (eBw 2) (eC (.int 0))) (eNeg (eBin dIx (eBw 2) (eC (.int 0))))) (lC (eBin dIx (eBw 2) (eC (.int 1))) lN))))))
theorem s_signed {ml : List Sl → Wd → R D} {N : Nat} (hl : LowOk N ml) : LowOk N (fnD 2 3 (f_signed ml)) := by
  intro p q w hq hp hb
  rw [fnD_eq]
  by_cases h0 : p = 0
  · subst h0
    rw [show mkRat 0 q = 0 from Rat.zero_mkRat q]
    simp [dEq_int, qD, big]
  · by_cases h1 : 0 < p
    · have e := hl p q w hq hp hb
      simp [dEq_int, h0, h1, e, ix0, ix1, big]
      rfl
    · have e := hl (-p) q w hq (by unfold Bd at *; rwa [Int.natAbs_neg]) hb
      rw [show mkRat (-p) q = -mkRat p q from (Rat.neg_mkRat p q).symm] at e
      simp [dEq_int, h0, h1, e, ix0, ix1, big]
      rfl
end DQ

set_option Elab.async false
set_option linter.all false
set_option maxRecDepth 100000
set_option maxHeartbeats 4000000
/-! DQ3: draws by digits -/
namespace DQ
open PySem PySem.Spec L2 DL DG PyProof.Rows PySem.W DM
def fnRO : RS → R (List D)
  | .ro ds w => .ok ds w
  | .exc c w => .exc c w
  | _ => .bad
theorem fnO_eq (n N : Nat) (body : Sf) (ss : List Sl) (w : Wd) : fnO n N body ss w = fnRO (body (ent n N ss) w) := by
  unfold fnO
  cases body (ent n N ss) w <;> rfl
@[simp] theorem fnRO_ro {d : List D} {w : Wd} : fnRO (.ro d w) = .ok d w := Eq.trans rfl rfl
abbrev f_open : Sf := (sSeq (sOwn (oLc (iS (eScCut 0 pN (pS (eC (.int 63))))) (gN 2) oYes (eCall gAbs (lC (eCall gInt (lC (eBw 2) lN)) lN)) [2]) 1)
  (sSeq (sFz 1) (sRetO (oLst (lC (eC (.int 0)) (lC (eC (.int 0)) (lC (eBin dAdd (eBw 1) (eFz (oLst (lC (eC (.int 0)) lN)))) lN)))))))
def DrOk (w : Wd) : Prop := ∃ (t l : Nat) (cs : List Nat), cs ≠ [] ∧ cs.length ≤ 1000 ∧ w = [nD t, nD l, .list (cs.map nD)]
theorem s_open (ns : List Int) (hn : ns.length ≤ 63) : ∃ ds, fnO 1 3 f_open [.sc ns] [] = .ok ds [] ∧ DrOk ds := by
  rw [fnO_eq]
  unfold f_open
  refine ⟨[nD 0, nD 0, .list (((ns.take 63).map Int.natAbs ++ [0]).map nD)], ?_, 0, 0, _, by simp, by simp; omega, rfl⟩
  have hc : DL.cut (ns.map PyData.int) none (some 63) = (ns.take 63).map PyData.int := by
    rw [show (63 : Int) = ((63 : Nat) : Int) from rfl, cut_take, List.map_take]
  have e := oLc_mapT (fi := iS (eScCut 0 pN (pS (eC (.int 63))))) (tgt := gN 2) (fe := eCall gAbs (lC (eCall gInt (lC (eBw 2) lN)) lN)) (vs := [2]) (w := []) (w1 := []) (ρ := [some (.sc ns), none, none]) (xs := ns.take 63)
    PyData.int nD Int.natAbs (by simp [eScCut, hc]) (by rw [List.length_take, big]; omega) fun o ho => ⟨_, rfl, by simp [abs_nat, nD]⟩
  rw [u_sSeq, u_sOwn]
  have e0 : ent 1 3 [.sc ns] = [some (.sc ns), none, none] := rfl
  rw [e0, e]
  have h1 : ns.length + 1 ≤ sizeLine := by rw [big]; omega
  simp [dAdd, big, nD]
  rw [if_pos (by omega)]
  simp
abbrev f_mixed : Sf := (sSeq (sAsg (eBin dMod (eBin dAdd (eBin dAdd (eBin dMul (eBin dMod (eBw 0) (eBin dSub (eBin dPow (eC (.int 2)) (eC (.int 61))) (eC (.int 1)))) (eC (.int 6364136223846793005))) (eBin dMul (eBw 1) (eC (.int 1442695040888963407)))) (eC (.int 97))) (eBin dPow (eC (.int 2)) (eC (.int 61)))) (gN 2))
  (sSeq (sAsg (eBin dMod (eBin dMul (eBin dXor (eBw 2) (eBin dShr (eBw 2) (eC (.int 29)))) (eC (.int 3935559000370003845))) (eBin dPow (eC (.int 2)) (eC (.int 61)))) (gN 2))
  (sRet (eBin dMod (eBin dMul (eBin dXor (eBw 2) (eBin dShr (eBw 2) (eC (.int 31)))) (eC (.int 2862933555777941757))) (eBin dPow (eC (.int 2)) (eC (.int 61)))))))
theorem dPow_61 : dPow (.int 2) (.int 61) = some (.int 2305843009213693952) := by
  show (if powOk 2 61 = true then some (PyData.int ((2 : Int) ^ (61 : Int).toNat)) else none) = _
  rw [if_pos (by simp [powOk])]
  rfl
theorem dPow_18 : dPow (.int 10) (.int 18) = some (.int 1000000000000000000) := by
  show (if powOk 10 18 = true then some (PyData.int ((10 : Int) ^ (18 : Int).toNat)) else none) = _
  rw [if_pos (by simp [powOk])]
  rfl
theorem dMod_int (i j : Int) (h : j ≠ 0) : dMod (.int i) (.int j) = some (.int (Int.fmod i j)) := by
  show (if decide (j ≠ 0) = true then some (PyData.int (Int.fmod i j)) else none) = _
  rw [if_pos (decide_eq_true h)]
theorem dMul_one (i j : Int) (h : j.natAbs < 18446744073709551616) : dMul (.int i) (.int j) = some (.int (i * j)) := by
  show (if mulOk i j = true then some (PyData.int (i * j)) else none) = _
  rw [if_pos]
  unfold mulOk
  rw [decide_eq_true h]
  simp
theorem fmodN (z : Int) {b : Int} (h : 0 < b) : ∃ k : Nat, Int.fmod z b = (k : Int) := ⟨(Int.fmod z b).toNat, by have := Int.fmod_nonneg_of_pos z h; omega⟩
theorem s_mixed (c t : Nat) (w : Wd) : ∃ z : Nat, fnD 2 3 f_mixed [.v (nD c), .v (nD t)] w = .ok (nD z) w := by
  rw [fnD_eq]
  unfold f_mixed
  have x1 : ∀ i j : Int, dXor (.int i) (.int j) = some (.int (Builtin.bitXor i j)) := fun _ _ => rfl
  have x2 : ∀ i : Int, dShr (.int i) (.int 29) = some (.int (i / 2 ^ 29)) := fun _ => rfl
  have x3 : ∀ i : Int, dShr (.int i) (.int 31) = some (.int (i / 2 ^ 31)) := fun _ => rfl
  have m1 : ∀ i : Int, dMul (.int i) (.int 6364136223846793005) = some (.int (i * 6364136223846793005)) := fun i => dMul_one i _ (by decide)
  have m2 : ∀ i : Int, dMul (.int i) (.int 1442695040888963407) = some (.int (i * 1442695040888963407)) := fun i => dMul_one i _ (by decide)
  have m3 : ∀ i : Int, dMul (.int i) (.int 3935559000370003845) = some (.int (i * 3935559000370003845)) := fun i => dMul_one i _ (by decide)
  have m4 : ∀ i : Int, dMul (.int i) (.int 2862933555777941757) = some (.int (i * 2862933555777941757)) := fun i => dMul_one i _ (by decide)
  have d1 : ∀ i : Int, dMod (.int i) (.int 2305843009213693952) = some (.int (Int.fmod i 2305843009213693952)) := fun i => dMod_int i _ (by decide)
  have d2 : ∀ i : Int, dMod (.int i) (.int (2305843009213693952 - 1)) = some (.int (Int.fmod i (2305843009213693952 - 1))) := fun i => dMod_int i _ (by decide)
  simp only [u_sSeq, u_sAsg, u_eBin, u_eBw, u_eC, u_ent, nD, List.map_cons, List.map_nil, List.cons_append, List.nil_append, Nat.reduceSub, List.replicate, List.getElem?_cons_zero, List.getElem?_cons_succ, bind_ok, dPow_61, of_some, u_subI, d2, m1, m2, u_addI, d1, bindS_ok, u_gN, List.length_cons, List.length_nil, Nat.reduceAdd, Nat.reduceLT, if_true, ofO_some, seqK_nx,
    List.set_cons_succ, List.set_cons_zero, x1, x2, x3, m3, m4, u_sRet, fnR_rt]
  obtain ⟨k, hk⟩ := fmodN (Builtin.bitXor (Int.fmod (Builtin.bitXor (Int.fmod (Int.fmod (c : Int) (2305843009213693952 - 1) * 6364136223846793005 + (t : Int) * 1442695040888963407 + 97) 2305843009213693952) (Int.fmod (Int.fmod (c : Int) (2305843009213693952 - 1) * 6364136223846793005 + (t : Int) * 1442695040888963407 + 97) 2305843009213693952 / 2 ^ 29) * 3935559000370003845) 2305843009213693952) (Int.fmod (Builtin.bitXor (Int.fmod (Int.fmod (c : Int) (2305843009213693952 - 1) * 6364136223846793005 + (t : Int) * 1442695040888963407 + 97) 2305843009213693952) (Int.fmod (Int.fmod (c : Int) (2305843009213693952 - 1) * 6364136223846793005 + (t : Int) * 1442695040888963407 + 97) 2305843009213693952 / 2 ^ 29) * 3935559000370003845) 2305843009213693952 / 2 ^ 31) * 2862933555777941757) (b := 2305843009213693952) (by decide)
  exact ⟨k, by rw [hk]⟩
abbrev f_draw (mm : List Sl → Wd → R D) : Sf := (sSeq (sDrUnp 0 3 (gsC (gN 2) (gsC (gN 3) (gsC (gN 4) gsN))))
  (sSeq (sIf (tCm dLt (eBw 3) (eBw 1)) (sSeq (sAsg (eBin dIx (eBw 4) (eBin dMod (eBw 2) (eCall gLen (lC (eBw 4) lN)))) (gN 5))
  (sSeq (sAsg (eIf (tAn (tCm dLt (eBw 2) (eCall gLen (lC (eBw 4) lN))) (tCm dGe (eBw 5) (eBin dPow (eC (.int 10)) (eC (.int 18))))) (eV 5) (eCallF 2 mm (aCons (eV 5) (aCons (eV 2) aNil)))) (gN 3))
  (sAsg (eBin dAdd (eBw 2) (eC (.int 1))) (gN 2)))) sNil)
  (sSeq (sDrSet 0 (eC (.int 0)) (eV 2))
  (sSeq (sDrSet 0 (eC (.int 1)) (eBin dFdiv (eBw 3) (eBw 1)))
  (sRet (eBin dMod (eBw 3) (eBw 1)))))))
def MixOk (mm : List Sl → Wd → R D) : Prop := ∀ (c t : Nat) (w : Wd), ∃ z : Nat, mm [.v (nD c), .v (nD t)] w = .ok (nD z) w
theorem dFdiv_nat (a b : Nat) (h : 0 < b) (h2 : b < 1073741824) : dFdiv (nD a) (nD b) = some (nD (a / b)) := by
  show (if divOk (a : Int) (b : Int) = true then some (PyData.int (Int.fdiv a b)) else none) = _
  rw [if_pos]
  · rw [fdiv_nat]; rfl
  · unfold divOk
    rw [decide_eq_true (by omega : (b : Int) ≠ 0), decide_eq_true (by omega : (b : Int).natAbs < 1073741824)]
    rfl
theorem ltN (a b : Nat) : dLt (nD a) (nD b) = some (.bool (decide (a < b))) := by
  unfold nD
  rw [u_ltI]
  congr 2
  exact decide_eq_decide.mpr (by omega)
theorem addN (a b : Nat) : dAdd (nD a) (nD b) = some (nD (a + b)) := rfl
theorem draw_tail (b t l : Nat) (cs : D) (x5 : Option Sl) (y0 y1 : D) (hb : 0 < b) (h2 : b < 1073741824) : fnR ((sSeq (sDrSet 0 (eC (.int 0)) (eV 2))
  (sSeq (sDrSet 0 (eC (.int 1)) (eBin dFdiv (eBw 3) (eBw 1)))
  (sRet (eBin dMod (eBw 3) (eBw 1))))) [some .dr, some (.v (nD b)), some (.v (nD t)), some (.v (nD l)), some (.v cs), x5] [y0, y1, cs]) = .ok (nD (l % b)) [nD t, nD (l / b), cs] := by
  have i0 : ixN 3 0 = some 0 := rfl
  have i1 : ixN 3 1 = some 1 := rfl
  simp [sDrSet, i0, i1, dFdiv_nat l b hb h2, dMod_natD l b (by omega)]
theorem s_draw {mm : List Sl → Wd → R D} (hm : MixOk mm) {w : Wd} (hw : DrOk w) (b : Nat) (hb : 0 < b) (h2 : b < 1073741824) : ∃ (z : Nat) (w' : Wd), z < b ∧ DrOk w' ∧ fnD 2 6 (f_draw mm) [.dr, .v (nD b)] w = .ok (nD z) w' := by
  obtain ⟨t, l, cs, hc, hl, rfl⟩ := hw
  rw [fnD_eq]
  unfold f_draw
  have e0 : ent 2 6 [.dr, .v (nD b)] = [some .dr, some (.v (nD b)), none, none, none, none] := rfl
  have s0 : sDrUnp 0 3 (gsC (gN 2) (gsC (gN 3) (gsC (gN 4) gsN))) [some .dr, some (.v (nD b)), none, none, none, none] [nD t, nD l, .list (cs.map nD)] = .nx [some .dr, some (.v (nD b)), some (.v (nD t)), some (.v (nD l)), some (.v (.list (cs.map nD))), none] [nD t, nD l, .list (cs.map nD)] := by simp [sDrUnp]
  rw [e0, u_sSeq, s0, seqK_nx]
  by_cases h : l < b
  · have hp : 0 < cs.length := List.length_pos_iff.mpr hc
    have hx : t % cs.length < cs.length := Nat.mod_lt _ hp
    have g1 : dIx (.list (cs.map nD)) (nD (t % cs.length)) = some (nD cs[t % cs.length]) := by
      show L2.atI _ _ = _
      exact DM.atI_map nD (List.getElem?_eq_getElem hx)
    have g0 : gLen [.list (cs.map nD)] = some (nD cs.length) := by rw [u_lenL, List.length_map]; rfl
    have s1 : ∃ l' : Nat, sSeq (sAsg (eBin dIx (eBw 4) (eBin dMod (eBw 2) (eCall gLen (lC (eBw 4) lN)))) (gN 5))
        (sSeq (sAsg (eIf (tAn (tCm dLt (eBw 2) (eCall gLen (lC (eBw 4) lN))) (tCm dGe (eBw 5) (eBin dPow (eC (.int 10)) (eC (.int 18))))) (eV 5) (eCallF 2 mm (aCons (eV 5) (aCons (eV 2) aNil)))) (gN 3))
        (sAsg (eBin dAdd (eBw 2) (eC (.int 1))) (gN 2))) [some .dr, some (.v (nD b)), some (.v (nD t)), some (.v (nD l)), some (.v (.list (cs.map nD))), none] [nD t, nD l, .list (cs.map nD)] =
        .nx [some .dr, some (.v (nD b)), some (.v (nD (t + 1))), some (.v (nD l')), some (.v (.list (cs.map nD))), some (.v (nD cs[t % cs.length]))] [nD t, nD l, .list (cs.map nD)] := by
      obtain ⟨z, hz⟩ := hm cs[t % cs.length] t [nD t, nD l, .list (cs.map nD)]
      have ge : dGe (nD cs[t % cs.length]) (.int 1000000000000000000) = some (.bool (decide (1000000000000000000 ≤ (cs[t % cs.length] : Int)))) := rfl
      have ad : dAdd (nD t) (.int 1) = some (nD (t + 1)) := rfl
      by_cases h3 : t < cs.length
      · by_cases h4 : (1000000000000000000 : Int) ≤ (cs[t % cs.length] : Int)
        · refine ⟨cs[t % cs.length], ?_⟩
          simp [g0, g1, dMod_natD t cs.length (by omega), ltN, h3, dPow_18, ge, h4, ad]
        · refine ⟨z, ?_⟩
          simp [g0, g1, dMod_natD t cs.length (by omega), ltN, h3, dPow_18, ge, h4, ad, hz]
      · refine ⟨z, ?_⟩
        simp [g0, g1, dMod_natD t cs.length (by omega), ltN, h3, dPow_18, ge, ad, hz]
    obtain ⟨l', s1⟩ := s1
    rw [u_sSeq, u_sIf]
    have t1 : tCm dLt (eBw 3) (eBw 1) [some .dr, some (.v (nD b)), some (.v (nD t)), some (.v (nD l)), some (.v (.list (cs.map nD))), none] [nD t, nD l, .list (cs.map nD)] = .ok true [nD t, nD l, .list (cs.map nD)] := by simp [ltN, h]
    rw [t1, bindS_ok, if_pos rfl, s1, seqK_nx, draw_tail b _ l' _ _ _ _ hb h2]
    exact ⟨l' % b, _, Nat.mod_lt _ hb, ⟨_, _, cs, hc, hl, rfl⟩, rfl⟩
  · rw [u_sSeq, u_sIf]
    have t1 : tCm dLt (eBw 3) (eBw 1) [some .dr, some (.v (nD b)), some (.v (nD t)), some (.v (nD l)), some (.v (.list (cs.map nD))), none] [nD t, nD l, .list (cs.map nD)] = .ok false [nD t, nD l, .list (cs.map nD)] := by simp [ltN, h]
    rw [t1, bindS_ok, if_neg (by decide), u_sNil, seqK_nx, draw_tail b _ l _ _ _ _ hb h2]
    exact ⟨l % b, _, Nat.mod_lt _ hb, ⟨_, _, cs, hc, hl, rfl⟩, rfl⟩
/-! ### comprehensions that draw -/
theorem lcL_eff {α β : Type} (m : α → D) (n : β → D) (Rr : α → β → Prop) (I : Wd → Prop) {tgt : Tg} {tt : Ev → Wd → R Bool} {fe : Ef} {ρ : Ev} : ∀ (xs : List α) (w : Wd), I w →
    (∀ x ∈ xs, ∀ w, I w → ∃ ρ1 y w2, tgt (m x) ρ = some ρ1 ∧ tt ρ1 w = .ok true w ∧ fe ρ1 w = .ok (n y) w2 ∧ I w2 ∧ Rr x y) → ∃ ys w2, lcL tgt tt fe ρ (xs.map m) w = .ok (ys.map n) w2 ∧ I w2 ∧ Paired Rr xs ys
  | [], w, h0, _ => ⟨[], w, rfl, h0, .nil⟩
  | x :: xs, w, h0, h => by
    obtain ⟨ρ1, y, w2, h1, h2, h3, h4, h5⟩ := h x List.mem_cons_self w h0
    obtain ⟨ys, w3, e, h6, h7⟩ := lcL_eff m n Rr I xs w2 h4 fun z hz => h z (List.mem_cons_of_mem _ hz)
    refine ⟨y :: ys, w3, ?_, h6, .cons h5 h7⟩
    rw [List.map_cons]
    unfold lcL
    rw [h1]
    dsimp only
    rw [h2, bind_ok, if_pos rfl, h3, bind_ok, e, bind_ok, List.map_cons]
theorem oLc_eff {α β : Type} (m : α → D) (n : β → D) (Rr : α → β → Prop) (I : Wd → Prop) {fi : Ev → Wd → R (List D)} {tgt : Tg} {tt : Ev → Wd → R Bool} {fe : Ef} {vs : List Nat} {ρ : Ev} {w w1 : Wd} {xs : List α}
    (hi : fi ρ w = .ok (xs.map m) w1) (hl : xs.length ≤ sizeLine) (h0 : I w1) (h : ∀ x ∈ xs, ∀ w, I w → ∃ ρ1 y w2, tgt (m x) (wipeE ρ vs) = some ρ1 ∧ tt ρ1 w = .ok true w ∧ fe ρ1 w = .ok (n y) w2 ∧ I w2 ∧ Rr x y) :
    ∃ ys w2, oLc fi tgt tt fe vs ρ w = .ok (ys.map n) w2 ∧ I w2 ∧ Paired Rr xs ys := by
  obtain ⟨ys, w2, e, h1, h2⟩ := lcL_eff m n Rr I xs w1 h0 h
  refine ⟨ys, w2, ?_, h1, h2⟩
  unfold oLc
  rw [hi, bind_ok, if_pos (by rw [List.length_map]; exact hl), e, calm_ok]
theorem Paired.len {α β : Type} {F : α → β → Prop} : ∀ {xs : List α} {ys : List β}, Paired F xs ys → ys.length = xs.length
  | _, _, .nil => rfl
  | _, _, .cons _ t => congrArg (· + 1) (Paired.len t)
theorem Paired.all {α β : Type} {F : α → β → Prop} : ∀ {xs : List α} {ys : List β}, Paired F xs ys → ∀ y ∈ ys, ∃ x ∈ xs, F x y
  | _, _, .nil, y, h => by cases h
  | _, _, .cons r t, y, h => by
    rcases List.mem_cons.mp h with h | h
    · subst h; exact ⟨_, List.mem_cons_self, r⟩
    · obtain ⟨x, h1, h2⟩ := Paired.all t y h
      exact ⟨x, List.mem_cons_of_mem _ h1, h2⟩
end DQ

set_option Elab.async false
set_option linter.all false
set_option maxRecDepth 100000
set_option maxHeartbeats 4000000
/-! DQ4: fractions as data of a type; the keys of dict(pairs) -/
namespace DQ
open PySem PySem.Spec L2 DL DG PyProof.Rows PySem.W DM
instance : Datum Rat where
  toD := qD
  plain := plain_qD
  eqv := eqv_qD
  depth := 1
  depth_le _ := by rw [depth_qD]; exact Nat.le_refl 1
theorem dNe_self {d : D} (hp : d.plain = true) (hd : d.depth ≤ 64) : dNe d d = some (.bool false) := by
  unfold dNe eqOk
  rw [hp, PySem.SeqAt.eqv_refl_plain d hp]
  simp
  exact hd
/-- a dict of ones -/
def onesD (K : List Int) : List (D × D) := K.map fun k => (.int k, .int 1)
theorem put_ones (K : List Int) (k : Int) : putD (onesD K) (.inl k) (.int 1) = if k ∈ K then onesD K else onesD (K ++ [k]) := by
  unfold putD
  have e : ((onesD K).any fun p => isKey (.inl k) p.1) = decide (k ∈ K) := by
    unfold onesD
    rw [List.any_map, Bool.eq_iff_iff, List.any_eq_true, decide_eq_true_eq]
    constructor
    · rintro ⟨x, hx, e⟩
      have e : decide (x = k) = true := e
      rw [← of_decide_eq_true e]; exact hx
    · exact fun h => ⟨k, h, decide_eq_true rfl⟩
  rw [e]
  by_cases h : k ∈ K
  · rw [decide_eq_true h, if_pos rfl, if_pos h]
    unfold onesD
    rw [List.map_map]
    refine List.map_congr_left fun x hx => ?_
    show (if isKey (.inl k) (PyData.int x) = true then (PyData.int x, PyData.int 1) else (PyData.int x, PyData.int 1)) = _
    split <;> rfl
  · rw [decide_eq_false h, if_neg (by decide), if_neg h]
    unfold onesD
    rw [List.map_append]
    rfl
theorem merge_ones : ∀ (ks K : List Int), K.Nodup → ∃ K' : List Int, mergeD (onesD K) (ks.map fun k => (.inl k, .int 1)) = onesD K' ∧ K'.Nodup ∧ (∀ x, x ∈ K' ↔ x ∈ K ∨ x ∈ ks) ∧ K'.length ≤ K.length + ks.length
  | [], K, h => ⟨K, rfl, h, by simp, by simp⟩
  | k :: ks, K, h => by
    have e : mergeD (onesD K) ((k :: ks).map fun k => (Sum.inl k, PyData.int 1)) = mergeD (putD (onesD K) (.inl k) (.int 1)) (ks.map fun k => (Sum.inl k, PyData.int 1)) := rfl
    rw [e, put_ones]
    by_cases hk : k ∈ K
    · rw [if_pos hk]
      obtain ⟨K', h1, h2, h3, h4⟩ := merge_ones ks K h
      refine ⟨K', h1, h2, fun x => ?_, by rw [List.length_cons]; omega⟩
      rw [h3, List.mem_cons]
      grind
    · rw [if_neg hk]
      obtain ⟨K', h1, h2, h3, h4⟩ := merge_ones ks (K ++ [k]) (List.nodup_append.mpr ⟨h, by simp, by
        intro a ha b hb q
        rw [List.mem_singleton] at hb
        rw [hb] at q
        rw [q] at ha
        exact hk ha⟩)
      refine ⟨K', h1, h2, fun x => ?_, by simp at h4; rw [List.length_cons]; omega⟩
      rw [h3, List.mem_append, List.mem_singleton, List.mem_cons]
      grind
theorem pairsOf_ones : ∀ ks : List Int, DL.pairsOf (ks.map fun k => PyData.tuple [.int k, .int 1]) = some (ks.map fun k => (.inl k, .int 1))
  | [] => rfl
  | k :: ks => by
    rw [List.map_cons]
    unfold DL.pairsOf
    rw [pairsOf_ones ks]
    rfl
theorem fst_ones (K : List Int) : fstD (onesD K) = K.map .int := by
  unfold fstD onesD
  rw [List.map_map]
  rfl
end DQ

set_option Elab.async false
set_option linter.all false
set_option maxRecDepth 100000
set_option maxHeartbeats 4000000
/-! DQ5: draws of the other kind, what is alike, Euclid by while -/
namespace DQ
open PySem PySem.Spec L2 DL DG PyProof.Rows PySem.W DM
abbrev f_ltake : Sf := (sSeq (sIf (tCm dEq (eDrLen 0) (eC (.int 0))) (sRet (eC (.int 0))) sNil)
  (sRet (eBin dMod (eCall gInt (lC (eDrPop 0) lN)) (eBw 1))))
theorem dPow_18' : dPow (.int 10) (.int 18) = some (.int (10 ^ 18)) := dPow_18
theorem fmod_lt (z b : Int) (h : 0 < b) : 0 ≤ Int.fmod z b ∧ Int.fmod z b < b := ⟨Int.fmod_nonneg_of_pos z h, Int.fmod_lt_of_pos z h⟩
theorem dFdiv_int (i j : Int) (h : 0 < j) (h2 : j < 1073741824) : dFdiv (.int i) (.int j) = some (.int (Int.fdiv i j)) := by
  show (if divOk i j = true then some (PyData.int (Int.fdiv i j)) else none) = _
  rw [if_pos]
  unfold divOk
  have a : decide (j ≠ 0) = true := decide_eq_true (by omega)
  have b : decide (j.natAbs < 1073741824) = true := decide_eq_true (by omega)
  rw [a, b]
  rfl
theorem dMul_int (i j : Int) (h : 0 ≤ j) (h2 : j < 1073741824) : dMul (.int i) (.int j) = some (.int (i * j)) := by
  show (if mulOk i j = true then some (PyData.int (i * j)) else none) = _
  rw [if_pos]
  unfold mulOk
  have b : decide (j.natAbs < 18446744073709551616) = true := decide_eq_true (by omega)
  rw [b]
  simp
theorem s_ltake (ns : List Int) (b : Int) (hb : 0 < b) : ∃ (z : Int) (ns' : List Int), 0 ≤ z ∧ z < b ∧ fnD 2 2 f_ltake [.dr, .v (.int b)] (ns.map .int) = .ok (.int z) (ns'.map .int) := by
  rw [fnD_eq]
  unfold f_ltake
  rcases List.eq_nil_or_concat ns with rfl | ⟨p, z, rfl⟩
  · exact ⟨0, [], Int.le_refl _, hb, by simp [eDrLen, dEq_int]⟩
  · obtain ⟨h1, h2⟩ := fmod_lt z b hb
    refine ⟨Int.fmod z b, p, h1, h2, ?_⟩
    have hl : ((p ++ [z]).map PyData.int).length - 1 = p.length := by simp
    have hg : ((p ++ [z]).map PyData.int)[p.length]? = some (PyData.int z) := by simp
    have hd : ((p ++ [z]).map PyData.int).dropLast = p.map PyData.int := by simp
    have hn : ((p.length : Int) + 1 = 0) = False := by simp; omega
    rw [show p.concat z = p ++ [z] by simp]
    simp [eDrLen, eDrPop, dEq_int, hn, dMod_int z b (by omega)]
abbrev dIn60 : Sf := sIf (tCm dGt (eBw 5) (eC (.int 0))) (sSeq (sApp 1 (eBin dMod (eCall gInt (lC (eBw 5) lN)) (eC (.int 997)))) (sAsg (eBin dFdiv (eBw 5) (eC (.int 997))) (gN 5))) sNil
theorem app_ok {a c d e f g : Option Sl} {zs : List Int} {fa : Ef} {z : Int} {w : Wd} (h : fa [a, some (.ol (zs.map .int)), c, d, e, f, g] w = .ok (.int z) w) (hl : zs.length ≤ 100000) :
    sApp 1 fa [a, some (.ol (zs.map .int)), c, d, e, f, g] w = .nx [a, some (.ol ((zs ++ [z]).map .int)), c, d, e, f, g] w := by
  unfold sApp
  simp only [List.getElem?_cons_succ, List.getElem?_cons_zero, h, bindS_ok, List.length_map]
  rw [if_pos (by rw [big]; omega)]
  simp
theorem draws_in (a c d e g : Option Sl) (zs : List Int) (n : Int) (w : Wd) (hl : zs.length ≤ 50000) : ∃ (zs' : List Int) (n' : Int) (e' : Option Sl), zs'.length ≤ zs.length + 60 ∧ forL (gN 4) dIn60 ((List.range 60).map nD) [a, some (.ol (zs.map .int)), c, d, e, some (.v (.int n)), g] w = .nx [a, some (.ol (zs'.map .int)), c, d, e', some (.v (.int n')), g] w := by
  obtain ⟨ρ2, w2, h, ⟨rfl, zs', n', e', hz, rfl⟩⟩ := forL_inv nD (tgt := gN 4) (body := dIn60) (fun ps ρ w' => w' = w ∧ ∃ (zs' : List Int) (n' : Int) (e' : Option Sl), zs'.length ≤ zs.length + ps.length ∧ ρ = [a, some (.ol (zs'.map .int)), c, d, e', some (.v (.int n')), g]) (List.range 60) [] [a, some (.ol (zs.map .int)), c, d, e, some (.v (.int n)), g] w
    ⟨rfl, zs, n, e, Nat.le_refl _, rfl⟩ (by
      rintro p x q ρ w' hx ⟨rfl, zs', n', e', hz, rfl⟩
      have hp : p.length < 60 := by
        have := congrArg List.length hx
        simp at this
        omega
      by_cases hn : 0 < n'
      · refine ⟨_, [a, some (.ol ((zs' ++ [Int.fmod n' 997]).map .int)), c, d, some (.v (nD x)), some (.v (.int (Int.fdiv n' 997))), g], w', rfl, .inl ?_, rfl, _, _, _, by simp; omega, rfl⟩
        have := app_ok (a := a) (c := c) (d := d) (e := some (.v (nD x))) (f := some (.v (.int n'))) (g := g) (zs := zs') (fa := eBin dMod (eCall gInt (lC (eBw 5) lN)) (eC (.int 997))) (z := Int.fmod n' 997) (w := w') (by simp [dMod_int]) (by omega)
        simp [hn, dFdiv_int, this]
      · refine ⟨_, [a, some (.ol (zs'.map .int)), c, d, some (.v (nD x)), some (.v (.int n')), g], w', rfl, .inl ?_, rfl, _, _, _, by simp; omega, rfl⟩
        simp [hn])
  exact ⟨zs', n', e', by simpa using hz, h⟩
abbrev dCell : Sf := (sSeq (sAsg (eCall gAbs (lC (eBw 2) lN)) (gN 5))
  (sSeq (sIf (tCm dLt (eBw 5) (eBin dPow (eC (.int 10)) (eC (.int 18)))) (sSeq (sAsg (eBin dMod (eCall gInt (lC (eBin dAdd (eBin dMul (eBw 5) (eC (.int 48271))) (eC (.int 11))) lN)) (eC (.int 2147483647))) (gN 6))
  (sSeq (sApp 1 (eBin dMod (eCall gInt (lC (eBin dAdd (eBin dMul (eBw 6) (eC (.int 69621))) (eBw 5)) lN)) (eC (.int 2147483629))))
  (sSeq (sApp 1 (eBin dMod (eCall gInt (lC (eBin dAdd (eBw 6) (eBin dFdiv (eBw 5) (eC (.int 7)))) lN)) (eC (.int 1000003))))
  (sAsg (eC (.int 0)) (gN 5))))) sNil)
  (sFor (iR1 (eC (.int 60))) (gN 4) dIn60)))
theorem r60 {ρ : Ev} {w : Wd} : iR1 (eC (.int 60)) ρ w = .ok ((List.range 60).map nD) w := by
  rw [iR1_ok (j := 60) (w1 := w) rfl (by omega) (by omega)]
  rfl
theorem draws_cell (a d e f g : Option Sl) (zs : List Int) (x : Int) (w : Wd) (hl : zs.length ≤ 40000) : ∃ (zs' : List Int) (c' e' f' g' : Option Sl), zs'.length ≤ zs.length + 62 ∧ dCell [a, some (.ol (zs.map .int)), some (.v (.int x)), d, e, f, g] w = .nx [a, some (.ol (zs'.map .int)), c', d, e', f', g'] w := by
  let n : Int := if x < 0 then -x else x
  by_cases hn : n < 10 ^ 18
  · let u : Int := Int.fmod (n * 48271 + 11) 2147483647
    have e1 := app_ok (a := a) (c := some (.v (.int x))) (d := d) (e := e) (f := some (.v (.int n))) (g := some (.v (.int u))) (zs := zs) (fa := eBin dMod (eCall gInt (lC (eBin dAdd (eBin dMul (eBw 6) (eC (.int 69621))) (eBw 5)) lN)) (eC (.int 2147483629))) (z := Int.fmod (u * 69621 + n) 2147483629) (w := w)
      (by simp [dMod_int, dMul_int]) (by omega)
    have e2 := app_ok (a := a) (c := some (.v (.int x))) (d := d) (e := e) (f := some (.v (.int n))) (g := some (.v (.int u))) (zs := zs ++ [Int.fmod (u * 69621 + n) 2147483629]) (fa := eBin dMod (eCall gInt (lC (eBin dAdd (eBw 6) (eBin dFdiv (eBw 5) (eC (.int 7)))) lN)) (eC (.int 1000003))) (z := Int.fmod (u + Int.fdiv n 7) 1000003) (w := w)
      (by simp [dMod_int, dFdiv_int]) (by simp; omega)
    obtain ⟨zs', n', e', h1, h2⟩ := draws_in a (some (.v (.int x))) d e (some (.v (.int u))) (zs ++ [Int.fmod (u * 69621 + n) 2147483629] ++ [Int.fmod (u + Int.fdiv n 7) 1000003]) 0 w (by simp; omega)
    refine ⟨zs', some (.v (.int x)), e', some (.v (.int n')), some (.v (.int u)), by simp at h1; omega, ?_⟩
    have hu : Int.fmod ((if x < 0 then -x else x) * 48271 + 11) 2147483647 = u := rfl
    have hn' : (if x < 0 then -x else x) = n := rfl
    have t : tCm dLt (eBw 5) (eBin dPow (eC (.int 10)) (eC (.int 18))) [a, some (.ol (zs.map .int)), some (.v (.int x)), d, e, some (.v (.int n)), g] w = .ok true w := by simp only [u_tCm, u_eBw, List.getElem?_cons_succ, List.getElem?_cons_zero, bind_ok, u_eBin, u_eC, dPow_18', of_some, u_ltI, Option.bind_some, u_bOfb, decide_eq_true hn]
    have s1 : sAsg (eCall gAbs (lC (eBw 2) lN)) (gN 5) [a, some (.ol (zs.map .int)), some (.v (.int x)), d, e, f, g] w = .nx [a, some (.ol (zs.map .int)), some (.v (.int x)), d, e, some (.v (.int n)), g] w := by simp [hn']
    have s2 : sAsg (eBin dMod (eCall gInt (lC (eBin dAdd (eBin dMul (eBw 5) (eC (.int 48271))) (eC (.int 11))) lN)) (eC (.int 2147483647))) (gN 6) [a, some (.ol (zs.map .int)), some (.v (.int x)), d, e, some (.v (.int n)), g] w = .nx [a, some (.ol (zs.map .int)), some (.v (.int x)), d, e, some (.v (.int n)), some (.v (.int u))] w := by simp [dMod_int, dMul_int, ← hu, hn']
    show sSeq _ _ _ _ = _
    rw [u_sSeq, s1, seqK_nx, u_sSeq, u_sIf, t, bindS_ok, if_pos rfl, u_sSeq, s2, seqK_nx, u_sSeq, e1, seqK_nx, u_sSeq, e2, seqK_nx, u_sAsg, u_eC, bindS_ok]
    simp only [u_gN, List.length_cons, List.length_nil, Nat.reduceAdd, Nat.reduceLT, if_true, ofO_some, List.set_cons_succ, List.set_cons_zero, seqK_nx]
    rw [u_sFor, r60, bindS_ok, h2]
  · obtain ⟨zs', n', e', h1, h2⟩ := draws_in a (some (.v (.int x))) d e g zs n w (by omega)
    refine ⟨zs', some (.v (.int x)), e', some (.v (.int n')), g, by omega, ?_⟩
    have hn' : (if x < 0 then -x else x) = n := rfl
    have t : tCm dLt (eBw 5) (eBin dPow (eC (.int 10)) (eC (.int 18))) [a, some (.ol (zs.map .int)), some (.v (.int x)), d, e, some (.v (.int n)), g] w = .ok false w := by simp only [u_tCm, u_eBw, List.getElem?_cons_succ, List.getElem?_cons_zero, bind_ok, u_eBin, u_eC, dPow_18', of_some, u_ltI, Option.bind_some, u_bOfb, decide_eq_false hn]
    have s1 : sAsg (eCall gAbs (lC (eBw 2) lN)) (gN 5) [a, some (.ol (zs.map .int)), some (.v (.int x)), d, e, f, g] w = .nx [a, some (.ol (zs.map .int)), some (.v (.int x)), d, e, some (.v (.int n)), g] w := by simp [hn']
    show sSeq _ _ _ _ = _
    rw [u_sSeq, s1, seqK_nx, u_sSeq, u_sIf, t, bindS_ok, if_neg (by decide), u_sNil, seqK_nx, u_sFor, r60, bindS_ok, h2]
theorem draws_cells (a d e f g : Option Sl) (c : Option Sl) (xs : List Int) (hx : xs.length ≤ 100) (w : Wd) : ∃ (zs' : List Int) (c' e' f' g' : Option Sl), zs'.length ≤ 6200 ∧ forL (gN 2) dCell (xs.map PyData.int) [a, some (.ol []), c, d, e, f, g] w = .nx [a, some (.ol (zs'.map .int)), c', d, e', f', g'] w := by
  obtain ⟨ρ2, w2, h, ⟨rfl, zs', c', e', f', g', hz, rfl⟩⟩ := forL_inv PyData.int (tgt := gN 2) (body := dCell) (fun ps ρ w' => w' = w ∧ ∃ (zs' : List Int) (c' e' f' g' : Option Sl), zs'.length ≤ ps.length * 62 ∧ ρ = [a, some (.ol (zs'.map .int)), c', d, e', f', g']) xs [] [a, some (.ol []), c, d, e, f, g] w
    ⟨rfl, [], c, e, f, g, Nat.le_refl _, rfl⟩ (by
      rintro p x q ρ w' hx2 ⟨rfl, zs', c', e', f', g', hz, rfl⟩
      have hp : p.length < 100 := by
        have := congrArg List.length hx2
        simp at this
        omega
      obtain ⟨zs2, c2, e2, f2, g2, h1, h2⟩ := draws_cell a d e' f' g' zs' x w' (by omega)
      exact ⟨_, _, w', rfl, .inl h2, rfl, zs2, c2, e2, f2, g2, by simp; omega, rfl⟩)
  refine ⟨zs', c', e', f', g', ?_, h⟩
  simp at hz
  omega
abbrev dSeed : Sf := (sSeq (sAsg (eBin dMod (eCall gInt (lC (eBin dAdd (eBin dMul (eBw 3) (eC (.int 48271))) (eC (.int 69621))) lN)) (eC (.int 2147483647))) (gN 3))
  (sApp 1 (eBin dFdiv (eBw 3) (eC (.int 5)))))
theorem draws_seed (a c e f g : Option Sl) (zs : List Int) (n : Int) (hz : zs.length ≤ 10000) (w : Wd) : ∃ (zs' : List Int) (d' e' : Option Sl), zs'.length ≤ zs.length + 900 ∧ forL (gN 4) dSeed ((List.range 900).map nD) [a, some (.ol (zs.map .int)), c, some (.v (.int n)), e, f, g] w = .nx [a, some (.ol (zs'.map .int)), c, d', e', f, g] w := by
  obtain ⟨ρ2, w2, h, ⟨rfl, zs', n', e', hz, rfl⟩⟩ := forL_inv nD (tgt := gN 4) (body := dSeed) (fun ps ρ w' => w' = w ∧ ∃ (zs' : List Int) (n' : Int) (e' : Option Sl), zs'.length ≤ zs.length + ps.length ∧ ρ = [a, some (.ol (zs'.map .int)), c, some (.v (.int n')), e', f, g]) (List.range 900) [] [a, some (.ol (zs.map .int)), c, some (.v (.int n)), e, f, g] w
    ⟨rfl, zs, n, e, Nat.le_refl _, rfl⟩ (by
      rintro p x q ρ w' hx2 ⟨rfl, zs', n', e', hz, rfl⟩
      have hp : p.length < 900 := by
        have := congrArg List.length hx2
        simp at this
        omega
      let u : Int := Int.fmod (n' * 48271 + 69621) 2147483647
      have e1 := app_ok (a := a) (c := c) (d := some (.v (.int u))) (e := some (.v (nD x))) (f := f) (g := g) (zs := zs') (fa := eBin dFdiv (eBw 3) (eC (.int 5))) (z := Int.fdiv u 5) (w := w') (by simp [dFdiv_int]) (by omega)
      refine ⟨_, [a, some (.ol ((zs' ++ [Int.fdiv u 5]).map .int)), c, some (.v (.int u)), some (.v (nD x)), f, g], w', rfl, .inl ?_, rfl, _, _, _, by simp; omega, rfl⟩
      have s2 : sAsg (eBin dMod (eCall gInt (lC (eBin dAdd (eBin dMul (eBw 3) (eC (.int 48271))) (eC (.int 69621))) lN)) (eC (.int 2147483647))) (gN 3) [a, some (.ol (zs'.map .int)), c, some (.v (.int n')), some (.v (nD x)), f, g] w' = .nx [a, some (.ol (zs'.map .int)), c, some (.v (.int u)), some (.v (nD x)), f, g] w' := by simp [dMod_int, dMul_int]; rfl
      simp only [List.set_cons_succ, List.set_cons_zero]
      show sSeq _ _ _ _ = _
      rw [u_sSeq, s2, seqK_nx, e1])
  exact ⟨zs', _, e', by simpa using hz, h⟩
theorem r900 {ρ : Ev} {w : Wd} : iR1 (eC (.int 900)) ρ w = .ok ((List.range 900).map nD) w := by
  rw [iR1_ok (j := 900) (w1 := w) rfl (by omega) (by omega)]
  rfl
abbrev f_ldraws : Sf := (sSeq (sOwn (oLst lN) 1)
  (sSeq (sFor (iSc 0) (gN 2) dCell)
  (sSeq (sAsg (eC (.int 1)) (gN 3))
  (sSeq (sIf (tCm dGt (eDrLen 0) (eC (.int 0))) (sAsg (eBin dAdd (eC (.int 1)) (eCall gAbs (lC (eScIx 0 (eC (.int 0))) lN))) (gN 3)) sNil)
  (sSeq (sFor (iR1 (eC (.int 900))) (gN 4) dSeed)
  (sSeq (sFz 1) (sRetO (oRev (eBw 1)))))))))
theorem s_ldraws (ns : List Int) (hn : ns.length ≤ 63) : ∃ zs : List Int, fnO 1 7 f_ldraws [.sc ns] [] = .ok (zs.map .int) [] := by
  rw [fnO_eq]
  unfold f_ldraws
  obtain ⟨zs1, c1, e1, f1, g1, l1, h1⟩ := draws_cells (some (.sc ns)) none none none none none ns (by omega) []
  have s0 : sOwn (oLst lN) 1 (ent 1 7 [.sc ns]) [] = .nx [some (.sc ns), some (.ol []), none, none, none, none, none] [] := by simp
  have s1 : iSc 0 [some (.sc ns), some (.ol []), none, none, none, none, none] [] = .ok (ns.map .int) [] := rfl
  rw [u_sSeq, s0, seqK_nx, u_sSeq, u_sFor, s1, bindS_ok, h1, seqK_nx, u_sSeq]
  have s2 : sAsg (eC (.int 1)) (gN 3) [some (.sc ns), some (.ol (zs1.map .int)), c1, none, e1, f1, g1] [] = .nx [some (.sc ns), some (.ol (zs1.map .int)), c1, some (.v (.int 1)), e1, f1, g1] [] := by simp
  rw [s2, seqK_nx, u_sSeq]
  obtain ⟨n3, h3⟩ : ∃ n : Int, sIf (tCm dGt (eDrLen 0) (eC (.int 0))) (sAsg (eBin dAdd (eC (.int 1)) (eCall gAbs (lC (eScIx 0 (eC (.int 0))) lN))) (gN 3)) sNil [some (.sc ns), some (.ol (zs1.map .int)), c1, some (.v (.int 1)), e1, f1, g1] [] = .nx [some (.sc ns), some (.ol (zs1.map .int)), c1, some (.v (.int n)), e1, f1, g1] [] := by
    cases ns with
    | nil => exact ⟨1, by simp [eDrLen]⟩
    | cons x xs =>
      have hx : L2.atI (x :: xs) 0 = some x := atI_nat (j := 0) rfl
      have hp : (0 : Int) < (xs.length : Int) + 1 := by omega
      exact ⟨1 + (if x < 0 then -x else x), by simp [eDrLen, eScIx, hx, hp]⟩
  rw [h3, seqK_nx]
  obtain ⟨zs4, d4, e4, l4, h4⟩ := draws_seed (some (.sc ns)) c1 e1 f1 g1 zs1 n3 (by omega) []
  rw [u_sSeq, u_sFor, r900, bindS_ok, h4, seqK_nx]
  refine ⟨zs4.reverse, ?_⟩
  simp [oRev]

/-- a law's draws: whole numbers -/
def IntW (w : Wd) : Prop := ∃ ns : List Int, w = ns.map .int
theorem ltake {ml : List Sl → Wd → R D} (hm : ml = fnD 2 2 f_ltake) {w : Wd} (hw : IntW w) (b : Nat) (hb : 0 < b) : ∃ (z : Nat) (w' : Wd), z < b ∧ IntW w' ∧ ml [.dr, .v (nD b)] w = .ok (nD z) w' := by
  obtain ⟨ns, rfl⟩ := hw
  obtain ⟨z, ns', h0, h1, e⟩ := s_ltake ns (b : Int) (by omega)
  refine ⟨z.toNat, ns'.map .int, by omega, ⟨ns', rfl⟩, ?_⟩
  rw [hm]
  have : nD z.toNat = .int z := by unfold nD; congr 1; omega
  rw [this]
  exact e
abbrev f_lsays : Sf := (sRet (eAn (eIs "bool" (eBw 0)) (eBin dEq (eBw 0) (eBw 1))))
theorem s_lsays (b c : Bool) (w : Wd) : fnD 2 2 f_lsays [.v (.bool b), .v (.bool c)] w = .ok (.bool (decide (b = c))) w := by
  rw [fnD_eq]
  have e0 : ent 2 2 [.v (.bool b), .v (.bool c)] = [some (.v (.bool b)), some (.v (.bool c))] := rfl
  unfold f_lsays
  rw [e0, u_sRet]
  unfold eAn
  have h1 : eIs "bool" (eBw 0) [some (.v (.bool b)), some (.v (.bool c))] w = .ok (.bool true) w := rfl
  rw [h1, bind_ok, u_truB]
  dsimp only
  simp only [u_eBin, u_eBw, List.getElem?_cons_zero, List.getElem?_cons_succ, bind_ok, dEq_bool, of_some, bindS_ok, fnR_rt]
/-! ### alike -/
abbrev f_lalike (mj : List Sl → Wd → R D) : Sf := (sSeq (sIf (tOo (tstV (eIs "list" (eBw 1))) (tstV (eIs "tuple" (eBw 1)))) (sSeq (sIf (tOo (tCm dNe (eIs "list" (eBw 0)) (eIs "list" (eBw 1))) (tCm dNe (eIs "tuple" (eBw 0)) (eIs "tuple" (eBw 1)))) (sRet (eC (.bool false))) sNil)
  (sRet (eAn (eBin dEq (eCall gLen (lC (eBw 0) lN)) (eCall gLen (lC (eBw 1) lN))) (eBin dEq (eFz (oLc (iR1 (eCall gLen (lC (eBw 1) lN))) (gN 2) (tNo (tstV (eCallF 2 mj (aCons (eBin dIx (eBw 0) (eBw 2)) (aCons (eBin dIx (eBw 1) (eBw 2)) aNil))))) (eV 2) [2])) (eFz (oLst lN)))))) sNil)
  (sSeq (sIf (tCm dIs (eBw 1) (eC .none)) (sRet (eBin dIs (eBw 0) (eC .none))) sNil)
  (sSeq (sIf (tOo (tstV (eIs "bool" (eBw 1))) (tstV (eIs "bool" (eBw 0)))) (sRet (eAn (eIs "bool" (eBw 0)) (eAn (eIs "bool" (eBw 1)) (eBin dEq (eBw 0) (eBw 1))))) sNil)
  (sSeq (sIf (tstV (eIs "int" (eBw 1))) (sRet (eAn (eIs "int" (eBw 0)) (eBin dEq (eBw 0) (eBw 1)))) sNil)
  (sRet (eAn (eIs "str" (eBw 0)) (eBin dEq (eBw 0) (eBw 1))))))))
/-- plain data of depth j or less, no dict in it -/
inductive Sim : Nat → D → Prop
  | non (j : Nat) : Sim j .none
  | bl (j : Nat) (b : Bool) : Sim j (.bool b)
  | int (j : Nat) (i : Int) : Sim j (.int i)
  | str (j : Nat) (x : Str) : Sim j (.str x)
  | lst (j : Nat) (ds : List D) : (∀ d ∈ ds, Sim j d) → ds.length ≤ 100000 → Sim (j + 1) (.list ds)
  | tup (j : Nat) (ds : List D) : (∀ d ∈ ds, Sim j d) → ds.length ≤ 100000 → Sim (j + 1) (.tuple ds)
theorem sim_plain {j : Nat} {d : D} (h : Sim j d) : d.plain = true := by
  have all : ∀ ds : List D, (∀ d ∈ ds, d.plain = true) → PyData.plainAll ds = true := fun ds => by
    induction ds with
    | nil => intro _; rfl
    | cons d ds ih => intro h; rw [PyData.plainAll, h d List.mem_cons_self, ih fun x hx => h x (List.mem_cons_of_mem _ hx)]; rfl
  induction h with
  | non j => rfl
  | bl j b => rfl
  | int j i => rfl
  | str j x => rfl
  | lst j ds hd hl ih => rw [PyData.plain]; exact all ds ih
  | tup j ds hd hl ih => rw [PyData.plain]; exact all ds ih
theorem alike_self {mj : Nat → List Sl → Wd → R D} (h0 : ∀ j, mj (j + 1) = fnD 2 3 (f_lalike (mj j))) : ∀ (j : Nat) (d : D), Sim j d → ∀ w, mj (j + 1) [.v d, .v d] w = .ok (.bool true) w := by
  intro j d hs
  induction hs with
  | non j => intro w; rw [h0]; rfl
  | bl j b =>
    intro w; rw [h0, fnD_eq]
    have e0 : ent 2 3 [.v (.bool b), .v (.bool b)] = [some (.v (.bool b)), some (.v (.bool b)), none] := rfl
    rw [e0]
    have e : dEq (.bool b) (.bool b) = some (.bool true) := by rw [dEq_bool]; simp
    have t1 : isTy "list" (.bool b) = some false := rfl
    have t2 : isTy "tuple" (.bool b) = some false := rfl
    have t3 : isTy "bool" (.bool b) = some true := rfl
    simp [eAn, e, t1, t2, t3, DL.isNon]
  | int j i =>
    intro w; rw [h0, fnD_eq]
    have e0 : ent 2 3 [.v (.int i), .v (.int i)] = [some (.v (.int i)), some (.v (.int i)), none] := rfl
    rw [e0]
    have e : dEq (.int i) (.int i) = some (.bool true) := by rw [dEq_int]; simp
    have t1 : isTy "list" (.int i) = some false := rfl
    have t2 : isTy "tuple" (.int i) = some false := rfl
    have t3 : isTy "bool" (.int i) = some false := rfl
    have t4 : isTy "int" (.int i) = some true := rfl
    simp [eAn, e, t1, t2, t3, t4, DL.isNon]
  | str j x =>
    intro w; rw [h0, fnD_eq]
    have e0 : ent 2 3 [.v (.str x), .v (.str x)] = [some (.v (.str x)), some (.v (.str x)), none] := rfl
    rw [e0]
    have e : dEq (.str x) (.str x) = some (.bool true) := (dEq_datum (α := Str) (by decide) x x).trans (by simp)
    have t1 : isTy "list" (.str x) = some false := rfl
    have t2 : isTy "tuple" (.str x) = some false := rfl
    have t3 : isTy "bool" (.str x) = some false := rfl
    have t4 : isTy "int" (.str x) = some false := rfl
    have t5 : isTy "str" (.str x) = some true := rfl
    simp [eAn, e, t1, t2, t3, t4, t5, DL.isNon]
  | lst j ds hd hl ih =>
    intro w; rw [h0, fnD_eq]
    have e0 : ent 2 3 [.v (.list ds), .v (.list ds)] = [some (.v (.list ds)), some (.v (.list ds)), none] := rfl
    rw [e0]
    have e := oLc_filt (fi := iR1 (eCall gLen (lC (eBw 1) lN))) (tgt := gN 2) (tt := tNo (tstV (eCallF 2 (mj (j + 1)) (aCons (eBin dIx (eBw 0) (eBw 2)) (aCons (eBin dIx (eBw 1) (eBw 2)) aNil))))) (fe := eV 2) (vs := [2]) (ρ := [some (.v (.list ds)), some (.v (.list ds)), none]) (w := w) (w1 := w) (xs := List.range ds.length) nD (fun _ => false)
      ((iR1_ok (j := (ds.length : Int)) (w1 := w) (by simp) (by omega) (by omega)).trans rfl) (by rw [List.length_range, big]; omega) fun k hk => by
        have hk : k < ds.length := List.mem_range.mp hk
        have ix : dIx (.list ds) (nD k) = some ds[k] := atI_nat (List.getElem?_eq_getElem hk)
        refine ⟨[some (.v (.list ds)), some (.v (.list ds)), some (.v (nD k))], rfl, ?_, rfl⟩
        simp only [u_tNo, u_tstV, u_eCallF, u_aCons, u_aNil, u_eBin, u_eBw, List.getElem?_cons_zero, List.getElem?_cons_succ, bind_ok, ix, of_some, List.length_cons, List.length_nil, Nat.reduceAdd, if_true, ih _ (List.getElem_mem hk) w, u_truB, Bool.not_true]
    have f0 : (List.range ds.length).filter (fun _ => false) = [] := List.filter_eq_nil_iff.mpr fun _ _ => by decide
    rw [f0, List.map_nil] at e
    have n0 : dEq (.list []) (.list []) = some (.bool true) := rfl
    have bb : dNe (.bool true) (.bool true) = some (.bool false) := rfl
    have bf : dNe (.bool false) (.bool false) = some (.bool false) := rfl
    have pl := sim_plain (.lst j ds hd hl)
    have t1 : isTy "list" (.list ds) = some true := by unfold isTy; simp [pl]; rfl
    have t2 : isTy "tuple" (.list ds) = some false := by unfold isTy; simp [pl]; rfl
    have g0 : dEq (.int (ds.length : Int)) (.int (ds.length : Int)) = some (.bool true) := by rw [dEq_int]; simp
    simp [eAn, e, g0, n0, bb, bf, t1, t2]
  | tup j ds hd hl ih =>
    intro w; rw [h0, fnD_eq]
    have e0 : ent 2 3 [.v (.tuple ds), .v (.tuple ds)] = [some (.v (.tuple ds)), some (.v (.tuple ds)), none] := rfl
    rw [e0]
    have e := oLc_filt (fi := iR1 (eCall gLen (lC (eBw 1) lN))) (tgt := gN 2) (tt := tNo (tstV (eCallF 2 (mj (j + 1)) (aCons (eBin dIx (eBw 0) (eBw 2)) (aCons (eBin dIx (eBw 1) (eBw 2)) aNil))))) (fe := eV 2) (vs := [2]) (ρ := [some (.v (.tuple ds)), some (.v (.tuple ds)), none]) (w := w) (w1 := w) (xs := List.range ds.length) nD (fun _ => false)
      ((iR1_ok (j := (ds.length : Int)) (w1 := w) (by simp) (by omega) (by omega)).trans rfl) (by rw [List.length_range, big]; omega) fun k hk => by
        have hk : k < ds.length := List.mem_range.mp hk
        have ix : dIx (.tuple ds) (nD k) = some ds[k] := atI_nat (List.getElem?_eq_getElem hk)
        refine ⟨[some (.v (.tuple ds)), some (.v (.tuple ds)), some (.v (nD k))], rfl, ?_, rfl⟩
        simp only [u_tNo, u_tstV, u_eCallF, u_aCons, u_aNil, u_eBin, u_eBw, List.getElem?_cons_zero, List.getElem?_cons_succ, bind_ok, ix, of_some, List.length_cons, List.length_nil, Nat.reduceAdd, if_true, ih _ (List.getElem_mem hk) w, u_truB, Bool.not_true]
    have f0 : (List.range ds.length).filter (fun _ => false) = [] := List.filter_eq_nil_iff.mpr fun _ _ => by decide
    rw [f0, List.map_nil] at e
    have n0 : dEq (.list []) (.list []) = some (.bool true) := rfl
    have bb : dNe (.bool true) (.bool true) = some (.bool false) := rfl
    have bf : dNe (.bool false) (.bool false) = some (.bool false) := rfl
    have pl := sim_plain (.tup j ds hd hl)
    have t1 : isTy "list" (.tuple ds) = some false := by unfold isTy; simp [pl]; rfl
    have t2 : isTy "tuple" (.tuple ds) = some true := by unfold isTy; simp [pl]; rfl
    have g0 : dEq (.int (ds.length : Int)) (.int (ds.length : Int)) = some (.bool true) := by rw [dEq_int]; simp
    simp [eAn, e, g0, n0, bb, bf, t1, t2]
/-! ### Euclid by while -/
abbrev f_lgcdB : Sf := (sPar 0 1 (lC (eV 1) (lC (eBin dMod (eCall gInt (lC (eBw 0) lN)) (eBw 1)) lN)))
theorem euc_whl (w : Wd) : ∀ (m n a b : Nat), b < 2 ^ n → 2 * n + 1 ≤ m → whl (tCm dGt (eBw 1) (eC (.int 0))) f_lgcdB m [some (.v (nD a)), some (.v (nD b))] w = .nx [some (.v (nD (Nat.gcd a b))), some (.v (nD 0))] w := by
  have stop : ∀ m a, whl (tCm dGt (eBw 1) (eC (.int 0))) f_lgcdB (m + 1) [some (.v (nD a)), some (.v (nD 0))] w = .nx [some (.v (nD a)), some (.v (nD 0))] w := fun m a => by
    unfold whl
    rfl
  have go : ∀ m a b, 0 < b → whl (tCm dGt (eBw 1) (eC (.int 0))) f_lgcdB (m + 1) [some (.v (nD a)), some (.v (nD b))] w = whl (tCm dGt (eBw 1) (eC (.int 0))) f_lgcdB m [some (.v (nD b)), some (.v (nD (a % b)))] w := fun m a b q => by
    have t : tCm dGt (eBw 1) (eC (.int 0)) [some (.v (nD a)), some (.v (nD b))] w = .ok true w := by
      have : dGt (nD b) (.int 0) = some (.bool true) := by unfold nD; rw [u_gtI]; congr 2; exact decide_eq_true (by omega)
      rw [u_tCm]
      simp only [u_eBw, List.getElem?_cons_zero, List.getElem?_cons_succ, bind_ok, u_eC, this, Option.bind_some, u_bOfb, of_some]
    have e : f_lgcdB [some (.v (nD a)), some (.v (nD b))] w = .nx [some (.v (nD b)), some (.v (nD (a % b)))] w := by
      have md := dMod_natD a b (by omega)
      have gi : gInt [nD a] = some (nD a) := rfl
      simp [sPar, md, gi]
    conv => lhs; unfold whl
    rw [t, bindS_ok, if_pos rfl, e]
  intro m n
  induction n generalizing m with
  | zero =>
    intro a b hb hm
    have h0 : b = 0 := by simpa using hb
    subst h0
    obtain ⟨k, rfl⟩ : ∃ k, m = k + 1 := ⟨m - 1, by omega⟩
    rw [stop, Nat.gcd_zero_right]
  | succ n ih =>
    intro a b hb hm
    obtain ⟨k, rfl⟩ : ∃ k, m = k + 2 := ⟨m - 2, by omega⟩
    by_cases h0 : b = 0
    · subst h0
      rw [stop, Nat.gcd_zero_right]
    · obtain ⟨h1, h2⟩ := mod_half (a := a) (Nat.pos_of_ne_zero h0)
      have g1 : Nat.gcd a b = Nat.gcd b (a % b) := by rw [Nat.gcd_comm a b, Nat.gcd_rec, Nat.gcd_comm]
      rw [go _ a b (Nat.pos_of_ne_zero h0)]
      by_cases h3 : a % b = 0
      · rw [h3, stop, g1, h3, Nat.gcd_zero_right]
      · rw [go _ b (a % b) (Nat.pos_of_ne_zero h3), g1]
        have g2 : Nat.gcd b (a % b) = Nat.gcd (a % b) (b % (a % b)) := by rw [Nat.gcd_comm b, Nat.gcd_rec, Nat.gcd_comm]
        rw [g2]
        refine ih k _ _ ?_ (by omega)
        have := h2 (Nat.pos_of_ne_zero h3)
        rw [Nat.pow_succ] at hb
        omega
end DQ

set_option Elab.async false
set_option linter.all false
set_option maxRecDepth 100000
set_option maxHeartbeats 4000000
/-! the defs of the law, by gen.py -/
namespace K89
open PySem PySem.Spec PyProof.Rows L2 DL DG
open GxR (TabB TabG)
def top (i : Nat) : Stmt := PySem.Challenge.pw_campslaid_k89_whole_tackles_that_lift.main.body.getD i (.Pass ⟨0, 0, 0, 0⟩)
abbrev st_is_number : Stmt := top 9
theorem sc_is_number : FnScope ["value", "least", "most"] ["value", "least", "most"] (defScope st_is_number) := ⟨rfl, rfl, rfl, by decide +kernel, rfl, by decide +kernel, by decide +kernel⟩
abbrev st_lowest : Stmt := top 11
theorem sc_lowest : FnScope ["part", "whole", "common"] ["part", "whole"] (defScope st_lowest) := ⟨rfl, rfl, rfl, by decide +kernel, rfl, by decide +kernel, by decide +kernel⟩
abbrev st_plus : Stmt := top 12
theorem sc_plus : FnScope ["one", "other"] ["one", "other"] (defScope st_plus) := ⟨rfl, rfl, rfl, by decide +kernel, rfl, by decide +kernel, by decide +kernel⟩
abbrev st_times : Stmt := top 13
theorem sc_times : FnScope ["one", "other"] ["one", "other"] (defScope st_times) := ⟨rfl, rfl, rfl, by decide +kernel, rfl, by decide +kernel, by decide +kernel⟩
abbrev st_less : Stmt := top 14
theorem sc_less : FnScope ["one", "other"] ["one", "other"] (defScope st_less) := ⟨rfl, rfl, rfl, by decide +kernel, rfl, by decide +kernel, by decide +kernel⟩
abbrev st_is_tackle : Stmt := top 20
theorem sc_is_tackle : FnScope ["value", "rolls"] ["value"] (defScope st_is_tackle) := ⟨rfl, rfl, rfl, by decide +kernel, rfl, by decide +kernel, by decide +kernel⟩
abbrev st_part_lifts : Stmt := top 21
theorem sc_part_lifts : FnScope ["rolls", "grip", "found", "pull", "_"] ["rolls", "grip"] (defScope st_part_lifts) := ⟨rfl, rfl, rfl, by decide +kernel, rfl, by decide +kernel, by decide +kernel⟩
abbrev st_lifts : Stmt := top 22
theorem sc_lifts : FnScope ["tackle", "grip", "found", "rolls"] ["tackle", "grip"] (defScope st_lifts) := ⟨rfl, rfl, rfl, by decide +kernel, rfl, by decide +kernel, by decide +kernel⟩
abbrev st_tackles_of : Stmt := top 23
theorem sc_tackles_of : FnScope ["rolls", "most", "found", "edge", "later", "row", "left", "one"] ["rolls", "most"] (defScope st_tackles_of) := ⟨rfl, rfl, rfl, by decide +kernel, rfl, by decide +kernel, by decide +kernel⟩
abbrev st_is_better : Stmt := top 25
theorem sc_is_better : FnScope ["grip", "one", "other", "mine", "theirs"] ["grip", "one", "other"] (defScope st_is_better) := ⟨rfl, rfl, rfl, by decide +kernel, rfl, by decide +kernel, by decide +kernel⟩
abbrev st_best_tackle : Stmt := top 24
theorem sc_best_tackle : FnScope ["rolls", "most", "grip", "found", "tackle"] ["rolls", "most", "grip"] (defScope st_best_tackle) := ⟨rfl, rfl, rfl, by decide +kernel, rfl, by decide +kernel, by decide +kernel⟩
abbrev st_fewest_rolls : Stmt := top 26
theorem sc_fewest_rolls : FnScope ["load", "grip", "lifted", "found"] ["load", "grip"] (defScope st_fewest_rolls) := ⟨rfl, rfl, rfl, by decide +kernel, rfl, by decide +kernel, by decide +kernel⟩
abbrev st__law_draws : Stmt := top 28
theorem sc__law_draws : FnScope ["script", "draws", "cell", "seed", "k", "number", "first"] ["script"] (defScope st__law_draws) := ⟨rfl, rfl, rfl, by decide +kernel, rfl, by decide +kernel, by decide +kernel⟩
abbrev st__law_take : Stmt := top 29
theorem sc__law_take : FnScope ["draws", "bound"] ["draws", "bound"] (defScope st__law_take) := ⟨rfl, rfl, rfl, by decide +kernel, rfl, by decide +kernel, by decide +kernel⟩
abbrev st__law_says : Stmt := top 30
theorem sc__law_says : FnScope ["told", "due"] ["told", "due"] (defScope st__law_says) := ⟨rfl, rfl, rfl, by decide +kernel, rfl, by decide +kernel, by decide +kernel⟩
abbrev st__law_alike : Stmt := top 31
theorem sc__law_alike : FnScope ["found", "due", "k"] ["found", "due"] (defScope st__law_alike) := ⟨rfl, rfl, rfl, by decide +kernel, rfl, by decide +kernel, by decide +kernel⟩
abbrev st__law_word : Stmt := top 32
theorem sc__law_word : FnScope ["error", "kinds", "one"] ["error"] (defScope st__law_word) := ⟨rfl, rfl, rfl, by decide +kernel, rfl, by decide +kernel, by decide +kernel⟩
abbrev st__law_gcd : Stmt := top 33
theorem sc__law_gcd : FnScope ["one", "other"] ["one", "other"] (defScope st__law_gcd) := ⟨rfl, rfl, rfl, by decide +kernel, rfl, by decide +kernel, by decide +kernel⟩
abbrev st__law_part : Stmt := top 34
theorem sc__law_part : FnScope ["one", "other", "common"] ["one", "other"] (defScope st__law_part) := ⟨rfl, rfl, rfl, by decide +kernel, rfl, by decide +kernel, by decide +kernel⟩
abbrev st__law_plus : Stmt := top 35
theorem sc__law_plus : FnScope ["one", "other"] ["one", "other"] (defScope st__law_plus) := ⟨rfl, rfl, rfl, by decide +kernel, rfl, by decide +kernel, by decide +kernel⟩
abbrev st__law_minus : Stmt := top 36
theorem sc__law_minus : FnScope ["one", "other"] ["one", "other"] (defScope st__law_minus) := ⟨rfl, rfl, rfl, by decide +kernel, rfl, by decide +kernel, by decide +kernel⟩
abbrev st__law_times : Stmt := top 37
theorem sc__law_times : FnScope ["one", "other"] ["one", "other"] (defScope st__law_times) := ⟨rfl, rfl, rfl, by decide +kernel, rfl, by decide +kernel, by decide +kernel⟩
abbrev st__law_less : Stmt := top 38
theorem sc__law_less : FnScope ["one", "other"] ["one", "other"] (defScope st__law_less) := ⟨rfl, rfl, rfl, by decide +kernel, rfl, by decide +kernel, by decide +kernel⟩
abbrev st__law_sum : Stmt := top 39
theorem sc__law_sum : FnScope ["rows", "found", "one"] ["rows"] (defScope st__law_sum) := ⟨rfl, rfl, rfl, by decide +kernel, rfl, by decide +kernel, by decide +kernel⟩
abbrev st__law_told : Stmt := top 42
theorem sc__law_told : FnScope ["which", "one", "other", "grip", "e"] ["which", "one", "other", "grip"] (defScope st__law_told) := ⟨rfl, rfl, rfl, by decide +kernel, rfl, by decide +kernel, by decide +kernel⟩
abbrev st__law_lifts : Stmt := top 43
theorem sc__law_lifts : FnScope ["tackle", "grip", "found", "rolls", "parts", "pull", "roll"] ["tackle", "grip"] (defScope st__law_lifts) := ⟨rfl, rfl, rfl, by decide +kernel, rfl, by decide +kernel, by decide +kernel⟩
abbrev st__law_tackles : Stmt := top 44
theorem sc__law_tackles : FnScope ["rolls", "most", "found", "edge", "later", "row", "left", "one"] ["rolls", "most"] (defScope st__law_tackles) := ⟨rfl, rfl, rfl, by decide +kernel, rfl, by decide +kernel, by decide +kernel⟩
abbrev st_law : Stmt := top 45
theorem sc_law : FnScope ["script", "draws", "grip", "tackle", "whole", "rolls", "single", "roll", "most", "best", "one", "told", "more", "wider", "load", "lifted", "many", "words", "odd", "k", "value"] ["script"] (defScope st_law) := ⟨rfl, rfl, rfl, by decide +kernel, rfl, by decide +kernel, by decide +kernel⟩
/- slots of is_number: 0:value 1:least 2:most -/
def f_is_number : Sf := (sRet (eAn (eIs "int" (eBw 0)) (eAn (eNo (eIs "bool" (eBw 0))) (eChain dLe dLe (eBw 1) (eBw 0) (eBw 2)))))
def m_is_number : List Sl → Wd → R D := fnD 3 3 f_is_number
/- slots of lowest: 0:part 1:whole 2:common -/
def f_lowest : Sf := (sSeq (sAsg (eCall gGcd (lC (eBw 0) (lC (eBw 1) lN))) (gN 2))
  (sSeq (sIf (tCm dLt (eBw 1) (eC (.int 0))) (sAsg (eNeg (eBw 2)) (gN 2)) sNil)
  (sRet (eTup (lC (eBin dFdiv (eBw 0) (eBw 2)) (lC (eBin dFdiv (eBw 1) (eBw 2)) lN))))))
def m_lowest : List Sl → Wd → R D := fnD 2 3 f_lowest
/- slots of plus: 0:one 1:other -/
def f_plus : Sf := (sRet (eCallF 2 m_lowest (aCons (eBin dAdd (eBin dMul (eBin dIx (eBw 0) (eC (.int 0))) (eBin dIx (eBw 1) (eC (.int 1)))) (eBin dMul (eBin dIx (eBw 1) (eC (.int 0))) (eBin dIx (eBw 0) (eC (.int 1))))) (aCons (eBin dMul (eBin dIx (eBw 0) (eC (.int 1))) (eBin dIx (eBw 1) (eC (.int 1)))) aNil))))
def m_plus : List Sl → Wd → R D := fnD 2 2 f_plus
/- slots of times: 0:one 1:other -/
def f_times : Sf := (sRet (eCallF 2 m_lowest (aCons (eBin dMul (eBin dIx (eBw 0) (eC (.int 0))) (eBin dIx (eBw 1) (eC (.int 0)))) (aCons (eBin dMul (eBin dIx (eBw 0) (eC (.int 1))) (eBin dIx (eBw 1) (eC (.int 1)))) aNil))))
def m_times : List Sl → Wd → R D := fnD 2 2 f_times
/- slots of less: 0:one 1:other -/
def f_less : Sf := (sRet (eBin dLt (eBin dMul (eBin dIx (eBw 0) (eC (.int 0))) (eBin dIx (eBw 1) (eC (.int 1)))) (eBin dMul (eBin dIx (eBw 1) (eC (.int 0))) (eBin dIx (eBw 0) (eC (.int 1))))))
def m_less : List Sl → Wd → R D := fnD 2 2 f_less
abbrev e_is_tackle_0 : Ef := (eCallF 3 m_is_number (aCons (eV 1) (aCons (eC (.int 1)) (aCons (eC (.int 8)) aNil))))
/- slots of is_tackle: 0:value 1:rolls -/
def f_is_tackle : Sf := (sSeq (sIf (tOo (tNo (tstV (eIs "tuple" (eBw 0)))) (tNo (tChn dLe dLe (eC (.int 1)) (eCall gLen (lC (eBw 0) lN)) (eC (.int 4))))) (sRet (eC (.bool false))) sNil)
  (sRet (eGen true (iS (eV 0)) (gN 1) oYes e_is_tackle_0 [1])))
def m_is_tackle : List Sl → Wd → R D := fnD 1 2 f_is_tackle
abbrev b_part_lifts_0 : Sf := (sSeq (sAsg (eCallF 2 m_times (aCons (eV 3) (aCons (eV 1) aNil))) (gN 3))
  (sAsg (eCallF 2 m_plus (aCons (eV 2) (aCons (eV 3) aNil))) (gN 2)))
/- slots of part_lifts: 0:rolls 1:grip 2:found 3:pull 4:_ -/
def f_part_lifts : Sf := (sSeq (sAsg (eTup (lC (eTup (lC (eC (.int 1)) (lC (eC (.int 1)) lN))) (lC (eTup (lC (eC (.int 1)) (lC (eC (.int 1)) lN))) lN))) (gT 2 (gsC (gN 2) (gsC (gN 3) gsN))))
  (sSeq (sFor (iR1 (eBw 0)) (gN 4) b_part_lifts_0)
  (sRet (eV 2))))
def m_part_lifts : List Sl → Wd → R D := fnD 2 5 f_part_lifts
abbrev b_lifts_0 : Sf := (sAsg (eCallF 2 m_times (aCons (eV 2) (aCons (eCallF 2 m_part_lifts (aCons (eV 3) (aCons (eV 1) aNil))) aNil))) (gN 2))
/- slots of lifts: 0:tackle 1:grip 2:found 3:rolls -/
def f_lifts : Sf := (sSeq (sAsg (eTup (lC (eC (.int 1)) (lC (eC (.int 1)) lN))) (gN 2))
  (sSeq (sFor (iS (eV 0)) (gN 3) b_lifts_0)
  (sRet (eV 2))))
def m_lifts : List Sl → Wd → R D := fnD 2 4 f_lifts
abbrev e_tackles_of_0 : Ef := (eTup (lC (eTup (lStar (eV 5) (lC (eV 7) lN))) (lC (eBin dSub (eBw 6) (eBw 7)) lN)))
abbrev b_tackles_of_1 : Sf := (sIf (tCm dEq (eBw 6) (eC (.int 0))) (sApp 2 (eV 5)) (sIf (tCm dLt (eCall gLen (lC (eBw 5) lN)) (eBw 1)) (sExt 4 (eFz (oLc (iR2 (eC (.int 1)) (eBin dAdd (eCall gMin (lC (eBw 6) (lC (eC (.int 8)) lN))) (eC (.int 1)))) (gN 7) oYes e_tackles_of_0 [7]))) sNil))
abbrev b_tackles_of_2 : Sf := (sSeq (sOwn (oLst lN) 4)
  (sSeq (sFor (iS (eV 3)) (gT 2 (gsC (gN 5) (gsC (gN 6) gsN))) b_tackles_of_1)
  (sSeq (sFz 4) (sAsg (eV 4) (gN 3)))))
/- slots of tackles_of: 0:rolls 1:most 2:found 3:edge 4:later 5:row 6:left 7:one -/
def f_tackles_of : Sf := (sSeq (sParO 2 3 (oLst lN) (eFz (oLst (lC (eTup (lC (eTup lN) (lC (eV 0) lN))) lN))))
  (sSeq (whl (tCm dGt (eCall gLen (lC (eBw 3) lN)) (eC (.int 0))) b_tackles_of_2 16)
  (sSeq (sFz 2) (sRet (eV 2)))))
def m_tackles_of : List Sl → Wd → R D := fnD 2 8 f_tackles_of
/- slots of is_better: 0:grip 1:one 2:other 3:mine 4:theirs -/
def f_is_better : Sf := (sSeq (sPar 3 4 (lC (eCallF 2 m_lifts (aCons (eV 1) (aCons (eV 0) aNil))) (lC (eCallF 2 m_lifts (aCons (eV 2) (aCons (eV 0) aNil))) lN)))
  (sSeq (sIf (tCm dNe (eBw 3) (eBw 4)) (sRet (eCallF 2 m_less (aCons (eV 4) (aCons (eV 3) aNil)))) sNil)
  (sRet (eBin dLtT (eTup (lC (eCall gLen (lC (eBw 1) lN)) (lC (eV 1) lN))) (eTup (lC (eCall gLen (lC (eBw 2) lN)) (lC (eV 2) lN)))))))
def m_is_better : List Sl → Wd → R D := fnD 3 5 f_is_better
abbrev b_best_tackle_0 : Sf := (sIf (tOo (tCm dIs (eBw 3) (eC .none)) (tstV (eCallF 3 m_is_better (aCons (eV 2) (aCons (eV 4) (aCons (eV 3) aNil)))))) (sAsg (eV 4) (gN 3)) sNil)
/- slots of best_tackle: 0:rolls 1:most 2:grip 3:found 4:tackle -/
def f_best_tackle : Sf := (sSeq (sIf (tOo (tNo (tstV (eCallF 3 m_is_number (aCons (eV 0) (aCons (eC (.int 1)) (aCons (eC (.int 10)) aNil)))))) (tNo (tstV (eCallF 3 m_is_number (aCons (eV 1) (aCons (eC (.int 1)) (aCons (eC (.int 4)) aNil))))))) (sRaise "OutOfRange") sNil)
  (sSeq (sAsg (eC .none) (gN 3))
  (sSeq (sFor (iS (eCallF 2 m_tackles_of (aCons (eV 0) (aCons (eV 1) aNil)))) (gN 4) b_best_tackle_0)
  (sSeq (sIf (tCm dIs (eBw 3) (eC .none)) (sRaise "Refused") sNil)
  (sRet (eV 3))))))
def m_best_tackle : List Sl → Wd → R D := fnD 3 5 f_best_tackle
abbrev b_fewest_rolls_0 : Sf := (sSeq (sIf (tCm dEq (eBw 3) (eC (.int 60))) (sRaise "TooMuch") sNil)
  (sSeq (sAsg (eCallF 2 m_times (aCons (eV 2) (aCons (eCallF 2 m_plus (aCons (eTup (lC (eC (.int 1)) (lC (eC (.int 1)) lN))) (aCons (eV 1) aNil))) aNil))) (gN 2))
  (sAug 3 dIadd (eC (.int 1)))))
/- slots of fewest_rolls: 0:load 1:grip 2:lifted 3:found -/
def f_fewest_rolls : Sf := (sSeq (sAsg (eTup (lC (eTup (lC (eC (.int 1)) (lC (eC (.int 1)) lN))) (lC (eC (.int 0)) lN))) (gT 2 (gsC (gN 2) (gsC (gN 3) gsN))))
  (sSeq (whl (tstV (eCallF 2 m_less (aCons (eV 2) (aCons (eV 0) aNil)))) b_fewest_rolls_0 64)
  (sRet (eV 3))))
def m_fewest_rolls : List Sl → Wd → R D := fnD 2 4 f_fewest_rolls
abbrev b__law_draws_0 : Sf := (sIf (tCm dGt (eBw 5) (eC (.int 0))) (sSeq (sApp 1 (eBin dMod (eCall gInt (lC (eBw 5) lN)) (eC (.int 997))))
  (sAsg (eBin dFdiv (eBw 5) (eC (.int 997))) (gN 5))) sNil)
abbrev b__law_draws_1 : Sf := (sSeq (sAsg (eCall gAbs (lC (eBw 2) lN)) (gN 5))
  (sSeq (sIf (tCm dLt (eBw 5) (eBin dPow (eC (.int 10)) (eC (.int 18)))) (sSeq (sAsg (eBin dMod (eCall gInt (lC (eBin dAdd (eBin dMul (eBw 5) (eC (.int 48271))) (eC (.int 11))) lN)) (eC (.int 2147483647))) (gN 6))
  (sSeq (sApp 1 (eBin dMod (eCall gInt (lC (eBin dAdd (eBin dMul (eBw 6) (eC (.int 69621))) (eBw 5)) lN)) (eC (.int 2147483629))))
  (sSeq (sApp 1 (eBin dMod (eCall gInt (lC (eBin dAdd (eBw 6) (eBin dFdiv (eBw 5) (eC (.int 7)))) lN)) (eC (.int 1000003))))
  (sAsg (eC (.int 0)) (gN 5))))) sNil)
  (sFor (iR1 (eC (.int 60))) (gN 4) b__law_draws_0)))
abbrev b__law_draws_2 : Sf := (sSeq (sAsg (eBin dMod (eCall gInt (lC (eBin dAdd (eBin dMul (eBw 3) (eC (.int 48271))) (eC (.int 69621))) lN)) (eC (.int 2147483647))) (gN 3))
  (sApp 1 (eBin dFdiv (eBw 3) (eC (.int 5)))))
/- slots of _law_draws: 0:script 1:draws 2:cell 3:seed 4:k 5:number 6:first -/
def f__law_draws : Sf := (sSeq (sOwn (oLst lN) 1)
  (sSeq (sFor (iSc 0) (gN 2) b__law_draws_1)
  (sSeq (sAsg (eC (.int 1)) (gN 3))
  (sSeq (sIf (tCm dGt (eDrLen 0) (eC (.int 0))) (sAsg (eBin dAdd (eC (.int 1)) (eCall gAbs (lC (eScIx 0 (eC (.int 0))) lN))) (gN 3)) sNil)
  (sSeq (sFor (iR1 (eC (.int 900))) (gN 4) b__law_draws_2)
  (sSeq (sFz 1) (sRetO (oRev (eBw 1)))))))))
def m__law_draws : List Sl → Wd → R (List D) := fnO 1 7 f__law_draws
/- slots of _law_take: 0:draws 1:bound -/
def f__law_take : Sf := (sSeq (sIf (tCm dEq (eDrLen 0) (eC (.int 0))) (sRet (eC (.int 0))) sNil)
  (sRet (eBin dMod (eCall gInt (lC (eDrPop 0) lN)) (eBw 1))))
def m__law_take : List Sl → Wd → R D := fnD 2 2 f__law_take
/- slots of _law_says: 0:told 1:due -/
def f__law_says : Sf := (sRet (eAn (eIs "bool" (eBw 0)) (eBin dEq (eBw 0) (eBw 1))))
def m__law_says : List Sl → Wd → R D := fnD 2 2 f__law_says
/- slots of _law_alike: 0:found 1:due 2:k -/
def f__law_alike (mj : List Sl → Wd → R D) : Sf := (sSeq (sIf (tOo (tstV (eIs "list" (eBw 1))) (tstV (eIs "tuple" (eBw 1)))) (sSeq (sIf (tOo (tCm dNe (eIs "list" (eBw 0)) (eIs "list" (eBw 1))) (tCm dNe (eIs "tuple" (eBw 0)) (eIs "tuple" (eBw 1)))) (sRet (eC (.bool false))) sNil)
  (sRet (eAn (eBin dEq (eCall gLen (lC (eBw 0) lN)) (eCall gLen (lC (eBw 1) lN))) (eBin dEq (eFz (oLc (iR1 (eCall gLen (lC (eBw 1) lN))) (gN 2) (tNo (tstV (eCallF 2 mj (aCons (eBin dIx (eBw 0) (eBw 2)) (aCons (eBin dIx (eBw 1) (eBw 2)) aNil))))) (eV 2) [2])) (eFz (oLst lN)))))) sNil)
  (sSeq (sIf (tCm dIs (eBw 1) (eC .none)) (sRet (eBin dIs (eBw 0) (eC .none))) sNil)
  (sSeq (sIf (tOo (tstV (eIs "bool" (eBw 1))) (tstV (eIs "bool" (eBw 0)))) (sRet (eAn (eIs "bool" (eBw 0)) (eAn (eIs "bool" (eBw 1)) (eBin dEq (eBw 0) (eBw 1))))) sNil)
  (sSeq (sIf (tstV (eIs "int" (eBw 1))) (sRet (eAn (eIs "int" (eBw 0)) (eBin dEq (eBw 0) (eBw 1)))) sNil)
  (sRet (eAn (eIs "str" (eBw 0)) (eBin dEq (eBw 0) (eBw 1))))))))
def m__law_alike : Nat → List Sl → Wd → R D
  | 0 => fun _ _ => .bad
  | j + 1 => fnD 2 3 (f__law_alike (m__law_alike j))
/- slots of _law_word: 0:error 1:kinds 2:one -/
def f__law_word : Sf := (sSeq (sIf (tCm dNe (eCall gLen (lC (eFz (oLc (iSl (eV 1)) (gN 2) (tstV (eBw 2)) (eV 2) [2])) lN)) (eC (.int 1))) (sRet (eC (.str "another"))) sNil)
  (sRet (eBin dIx (eFz (oLst (lC (eC (.str "range")) (lC (eC (.str "refused")) (lC (eC (.str "form")) (lC (eC (.str "none")) (lC (eC (.str "much")) lN))))))) (eIdx (eBw 1) (eC (.bool true))))))
abbrev b__law_gcd_0 : Sf := (sPar 0 1 (lC (eV 1) (lC (eBin dMod (eCall gInt (lC (eBw 0) lN)) (eBw 1)) lN)))
/- slots of _law_gcd: 0:one 1:other -/
def f__law_gcd : Sf := (sSeq (sPar 0 1 (lC (eCall gAbs (lC (eBw 0) lN)) (lC (eCall gAbs (lC (eBw 1) lN)) lN)))
  (sSeq (whl (tCm dGt (eBw 1) (eC (.int 0))) b__law_gcd_0 3000)
  (sRet (eV 0))))
def m__law_gcd : List Sl → Wd → R D := fnD 2 2 f__law_gcd
/- slots of _law_part: 0:one 1:other 2:common -/
def f__law_part : Sf := (sSeq (sAsg (eCallF 2 m__law_gcd (aCons (eV 0) (aCons (eV 1) aNil))) (gN 2))
  (sRet (eTup (lC (eBin dFdiv (eBw 0) (eBw 2)) (lC (eBin dFdiv (eBw 1) (eBw 2)) lN)))))
def m__law_part : List Sl → Wd → R D := fnD 2 3 f__law_part
/- slots of _law_plus: 0:one 1:other -/
def f__law_plus : Sf := (sRet (eCallF 2 m__law_part (aCons (eBin dAdd (eBin dMul (eBin dIx (eBw 0) (eC (.int 0))) (eBin dIx (eBw 1) (eC (.int 1)))) (eBin dMul (eBin dIx (eBw 1) (eC (.int 0))) (eBin dIx (eBw 0) (eC (.int 1))))) (aCons (eBin dMul (eBin dIx (eBw 0) (eC (.int 1))) (eBin dIx (eBw 1) (eC (.int 1)))) aNil))))
def m__law_plus : List Sl → Wd → R D := fnD 2 2 f__law_plus
/- slots of _law_minus: 0:one 1:other -/
def f__law_minus : Sf := (sRet (eCallF 2 m__law_part (aCons (eBin dSub (eBin dMul (eBin dIx (eBw 0) (eC (.int 0))) (eBin dIx (eBw 1) (eC (.int 1)))) (eBin dMul (eBin dIx (eBw 1) (eC (.int 0))) (eBin dIx (eBw 0) (eC (.int 1))))) (aCons (eBin dMul (eBin dIx (eBw 0) (eC (.int 1))) (eBin dIx (eBw 1) (eC (.int 1)))) aNil))))
def m__law_minus : List Sl → Wd → R D := fnD 2 2 f__law_minus
/- slots of _law_times: 0:one 1:other -/
def f__law_times : Sf := (sRet (eCallF 2 m__law_part (aCons (eBin dMul (eBin dIx (eBw 0) (eC (.int 0))) (eBin dIx (eBw 1) (eC (.int 0)))) (aCons (eBin dMul (eBin dIx (eBw 0) (eC (.int 1))) (eBin dIx (eBw 1) (eC (.int 1)))) aNil))))
def m__law_times : List Sl → Wd → R D := fnD 2 2 f__law_times
/- slots of _law_less: 0:one 1:other -/
def f__law_less : Sf := (sRet (eBin dLt (eBin dMul (eBin dIx (eBw 0) (eC (.int 0))) (eBin dIx (eBw 1) (eC (.int 1)))) (eBin dMul (eBin dIx (eBw 1) (eC (.int 0))) (eBin dIx (eBw 0) (eC (.int 1))))))
def m__law_less : List Sl → Wd → R D := fnD 2 2 f__law_less
abbrev b__law_sum_0 : Sf := (sAsg (eCallF 2 m__law_plus (aCons (eV 1) (aCons (eV 2) aNil))) (gN 1))
/- slots of _law_sum: 0:rows 1:found 2:one -/
def f__law_sum : Sf := (sSeq (sAsg (eTup (lC (eC (.int 0)) (lC (eC (.int 1)) lN))) (gN 1))
  (sSeq (sFor (iS (eV 0)) (gN 2) b__law_sum_0)
  (sRet (eV 1))))
def m__law_sum : List Sl → Wd → R D := fnD 1 3 f__law_sum
/- slots of _law_told: 0:which 1:one 2:other 3:grip 4:e -/
def f__law_told : Sf := (sTryW (sRet (eIf (tCm dEq (eBw 0) (eC (.int 0))) (eCallF 3 m_best_tackle (aCons (eV 1) (aCons (eV 2) (aCons (eV 3) aNil)))) (eCallF 2 m_fewest_rolls (aCons (eV 1) (aCons (eV 3) aNil))))) [("OutOfRange", "range"), ("Refused", "refused"), ("TooMuch", "much")])
def m__law_told : List Sl → Wd → R D := fnD 4 5 f__law_told
abbrev b__law_lifts_0 : Sf := (sSeq (sAsg (eCallF 2 m__law_times (aCons (eV 5) (aCons (eV 1) aNil))) (gN 5))
  (sApp 4 (eV 5)))
abbrev b__law_lifts_1 : Sf := (sSeq (sParO 4 5 (oLst (lC (eTup (lC (eC (.int 1)) (lC (eC (.int 1)) lN))) lN)) (eTup (lC (eC (.int 1)) (lC (eC (.int 1)) lN))))
  (sSeq (sFor (iR1 (eBw 3)) (gN 6) b__law_lifts_0)
  (sSeq (sFz 4) (sAsg (eCallF 2 m__law_times (aCons (eV 2) (aCons (eCallF 1 m__law_sum (aCons (eV 4) aNil)) aNil))) (gN 2)))))
/- slots of _law_lifts: 0:tackle 1:grip 2:found 3:rolls 4:parts 5:pull 6:roll -/
def f__law_lifts : Sf := (sSeq (sAsg (eTup (lC (eC (.int 1)) (lC (eC (.int 1)) lN))) (gN 2))
  (sSeq (sFor (iS (eV 0)) (gN 3) b__law_lifts_1)
  (sRet (eV 2))))
def m__law_lifts : List Sl → Wd → R D := fnD 2 7 f__law_lifts
abbrev e__law_tackles_0 : Ef := (eTup (lC (eBin dAdd (eBw 5) (eTup (lC (eV 7) lN))) (lC (eBin dSub (eBw 6) (eBw 7)) lN)))
abbrev b__law_tackles_1 : Sf := (sIf (tCm dLt (eCall gLen (lC (eBw 5) lN)) (eBw 1)) (sAsg (eBin dAdd (eBw 4) (eFz (oLc (iR2 (eC (.int 1)) (eBin dAdd (eCall gMin (lC (eBw 6) (lC (eC (.int 8)) lN))) (eC (.int 1)))) (gN 7) oYes e__law_tackles_0 [7]))) (gN 4)) sNil)
abbrev b__law_tackles_2 : Sf := (sSeq (sAsg (eBin dAdd (eBw 2) (eFz (oLc (iS (eV 3)) (gT 2 (gsC (gN 5) (gsC (gN 6) gsN))) (tCm dEq (eBw 6) (eC (.int 0))) (eV 5) [5, 6]))) (gN 2))
  (sSeq (sAsg (eFz (oLst lN)) (gN 4))
  (sSeq (sFor (iS (eV 3)) (gT 2 (gsC (gN 5) (gsC (gN 6) gsN))) b__law_tackles_1)
  (sAsg (eV 4) (gN 3)))))
/- slots of _law_tackles: 0:rolls 1:most 2:found 3:edge 4:later 5:row 6:left 7:one -/
def f__law_tackles : Sf := (sSeq (sPar 2 3 (lC (eFz (oLst lN)) (lC (eFz (oLst (lC (eTup (lC (eTup lN) (lC (eV 0) lN))) lN))) lN)))
  (sSeq (whl (tCm dNe (eBw 3) (eFz (oLst lN))) b__law_tackles_2 16)
  (sRet (eV 2))))
def m__law_tackles : List Sl → Wd → R D := fnD 2 8 f__law_tackles
abbrev s_law_0 : Sf := (sAsg (eIf (tCm dEq (eCallF 2 m__law_take (aSl 1 (aCons (eC (.int 2)) aNil))) (eC (.int 0))) (eCallF 2 m__law_part (aCons (eBin dAdd (eC (.int 1)) (eCallF 2 m__law_take (aSl 1 (aCons (eC (.int 6)) aNil)))) (aCons (eC (.int 6)) aNil))) (eCallF 2 m__law_part (aCons (eBin dAdd (eC (.int 1)) (eCallF 2 m__law_take (aSl 1 (aCons (eC (.int 20)) aNil)))) (aCons (eC (.int 20)) aNil)))) (gN 2))
abbrev e_law_1 : Ef := (eBin dAdd (eC (.int 1)) (eCallF 2 m__law_take (aSl 1 (aCons (eBin dIx (eFz (oLst (lC (eC (.int 2)) (lC (eC (.int 8)) lN)))) (eCallF 2 m__law_take (aSl 1 (aCons (eC (.int 2)) aNil)))) aNil))))
abbrev s_law_2 : Sf := (sAsg (eCall gTuple (lC (eFz (oLc (iR1 (eBin dAdd (eC (.int 1)) (eCallF 2 m__law_take (aSl 1 (aCons (eC (.int 4)) aNil))))) (gN 19) oYes e_law_1 [19])) lN)) (gN 3))
abbrev s_law_3 : Sf := (sIf (tOo (tNo (tstV (eCallF 2 m__law_says (aCons (eCallF 1 m_is_tackle (aCons (eV 3) aNil)) (aCons (eC (.bool true)) aNil))))) (tNo (tstV (eCallF 2 (m__law_alike 4) (aCons (eCallF 2 m_lifts (aCons (eV 3) (aCons (eV 2) aNil))) (aCons (eCallF 2 m__law_lifts (aCons (eV 3) (aCons (eV 2) aNil))) aNil)))))) (sRet (eC (.bool false))) sNil)
abbrev s_law_4 : Sf := (sAsg (eC (.int 1)) (gN 4))
abbrev s_law_5 : Sf := (sFor (iS (eV 3)) (gN 5) (sAsg (eBin dMul (eBw 4) (eBin dAdd (eBw 5) (eC (.int 1)))) (gN 4)))
abbrev s_law_6 : Sf := (sIf (tCm dNe (eCallF 2 m_lifts (aCons (eV 3) (aCons (eTup (lC (eC (.int 1)) (lC (eC (.int 1)) lN))) aNil))) (eTup (lC (eV 4) (lC (eC (.int 1)) lN)))) (sRet (eC (.bool false))) sNil)
abbrev s_law_7 : Sf := (sAsg (eTup (lC (eC (.int 1)) (lC (eC (.int 1)) lN))) (gN 6))
abbrev b_law_8 : Sf := (sAsg (eCallF 2 m__law_times (aCons (eV 6) (aCons (eCallF 2 m__law_plus (aCons (eTup (lC (eC (.int 1)) (lC (eC (.int 1)) lN))) (aCons (eV 2) aNil))) aNil))) (gN 6))
abbrev s_law_9 : Sf := (sFor (iR1 (eCall gSumA (lC (eBw 3) lN))) (gN 7) b_law_8)
abbrev s_law_10 : Sf := (sIf (tOo (tstV (eCallF 2 m__law_less (aCons (eV 6) (aCons (eCallF 2 m_lifts (aCons (eV 3) (aCons (eV 2) aNil))) aNil)))) (tCm dNe (eCallF 2 m_lifts (aCons (eBin dMul (eTup (lC (eC (.int 1)) lN)) (eCall gMin (lC (eC (.int 4)) (lC (eCall gSumA (lC (eBw 3) lN)) lN)))) (aCons (eV 2) aNil))) (eCallF 2 m__law_lifts (aCons (eBin dMul (eTup (lC (eC (.int 1)) lN)) (eCall gMin (lC (eC (.int 4)) (lC (eCall gSumA (lC (eBw 3) lN)) lN)))) (aCons (eV 2) aNil))))) (sRet (eC (.bool false))) sNil)
abbrev s_law_11 : Sf := (sPar 5 8 (lC (eBin dAdd (eC (.int 1)) (eCallF 2 m__law_take (aSl 1 (aCons (eC (.int 8)) aNil)))) (lC (eBin dAdd (eC (.int 1)) (eCallF 2 m__law_take (aSl 1 (aCons (eC (.int 3)) aNil)))) lN)))
abbrev s_law_12 : Sf := (sAsg (eC .none) (gN 9))
abbrev b_law_13 : Sf := (sSeq (sAsg (eCallF 2 m__law_lifts (aCons (eV 10) (aCons (eV 2) aNil))) (gN 15))
  (sIf (tOo (tCm dIs (eBw 9) (eC .none)) (tOo (tstV (eCallF 2 m__law_less (aCons (eBin dIx (eBw 9) (eC (.int 0))) (aCons (eV 15) aNil)))) (tAn (tCm dEq (eBin dIx (eBw 9) (eC (.int 0))) (eBw 15)) (tCm dLtT (eTup (lC (eCall gLen (lC (eBw 10) lN)) (lC (eV 10) lN))) (eTup (lC (eCall gLen (lC (eBin dIx (eBw 9) (eC (.int 1))) lN)) (lC (eBin dIx (eBw 9) (eC (.int 1))) lN))))))) (sAsg (eTup (lC (eV 15) (lC (eV 10) lN))) (gN 9)) sNil))
abbrev s_law_14 : Sf := (sFor (iS (eCallF 2 m__law_tackles (aCons (eV 5) (aCons (eV 8) aNil)))) (gN 10) b_law_13)
abbrev s_law_15 : Sf := (sAsg (eCallF 4 m__law_told (aCons (eC (.int 0)) (aCons (eV 5) (aCons (eV 8) (aCons (eV 2) aNil))))) (gN 11))
abbrev s_law_16 : Sf := (sIf (tNo (tstV (eCallF 2 (m__law_alike 4) (aCons (eV 11) (aCons (eBin dIx (eBw 9) (eC (.int 1))) aNil))))) (sRet (eC (.bool false))) sNil)
abbrev s_law_17 : Sf := (sAsg (eCallF 4 m__law_told (aCons (eC (.int 0)) (aCons (eBin dAdd (eBw 5) (eC (.int 1))) (aCons (eV 8) (aCons (eV 2) aNil))))) (gN 12))
abbrev s_law_18 : Sf := (sAsg (eCallF 2 m__law_plus (aCons (eV 2) (aCons (eCallF 2 m__law_times (aCons (eCallF 2 m__law_minus (aCons (eTup (lC (eC (.int 1)) (lC (eC (.int 1)) lN))) (aCons (eV 2) aNil))) (aCons (eCallF 2 m__law_part (aCons (eCallF 2 m__law_take (aSl 1 (aCons (eC (.int 5)) aNil))) (aCons (eC (.int 4)) aNil))) aNil))) aNil))) (gN 13))
abbrev s_law_19 : Sf := (sIf (tOo (tAn (tCm dNe (eBw 12) (eC (.str "refused"))) (tstV (eCallF 2 m__law_less (aCons (eCallF 2 m__law_lifts (aCons (eV 12) (aCons (eV 2) aNil))) (aCons (eBin dIx (eBw 9) (eC (.int 0))) aNil))))) (tstV (eCallF 2 m__law_less (aCons (eCallF 2 m_lifts (aCons (eCallF 3 m_best_tackle (aCons (eV 5) (aCons (eV 8) (aCons (eV 13) aNil)))) (aCons (eV 13) aNil))) (aCons (eBin dIx (eBw 9) (eC (.int 0))) aNil))))) (sRet (eC (.bool false))) sNil)
abbrev s_law_20 : Sf := (sIf (tAn (tCm dLe (eBw 5) (eBw 8)) (tAn (tCm dNe (eBw 11) (eBin dMul (eTup (lC (eC (.int 1)) lN)) (eBw 5))) (tCm dNe (eCallF 2 m__law_lifts (aCons (eBin dMul (eTup (lC (eC (.int 1)) lN)) (eBw 5)) (aCons (eV 2) aNil))) (eBin dIx (eBw 9) (eC (.int 0)))))) (sRet (eC (.bool false))) sNil)
abbrev s_law_21 : Sf := (sPar3 14 15 16 (lC (eCallF 2 m__law_part (aCons (eBin dAdd (eC (.int 1)) (eCallF 2 m__law_take (aSl 1 (aCons (eC (.int 400)) aNil)))) (aCons (eBin dAdd (eC (.int 1)) (eCallF 2 m__law_take (aSl 1 (aCons (eC (.int 9)) aNil)))) aNil))) (lC (eTup (lC (eC (.int 1)) (lC (eC (.int 1)) lN))) (lC (eC (.int 0)) lN))))
abbrev b_law_22 : Sf := (sPar 15 16 (lC (eCallF 2 m__law_times (aCons (eV 15) (aCons (eCallF 2 m__law_plus (aCons (eTup (lC (eC (.int 1)) (lC (eC (.int 1)) lN))) (aCons (eV 2) aNil))) aNil))) (lC (eBin dAdd (eBw 16) (eC (.int 1))) lN)))
abbrev t_law_23 : (Ev → Wd → R Bool) := (tAn (tstV (eCallF 2 m__law_less (aCons (eV 15) (aCons (eV 14) aNil)))) (tCm dLt (eBw 16) (eC (.int 61))))
abbrev s_law_24 : Sf := (whl t_law_23 b_law_22 64)
abbrev s_law_25 : Sf := (sIf (tNo (tstV (eCallF 2 (m__law_alike 4) (aCons (eCallF 4 m__law_told (aCons (eC (.int 1)) (aCons (eV 14) (aCons (eC .none) (aCons (eV 2) aNil))))) (aCons (eIf (tCm dLt (eBw 16) (eC (.int 61))) (eV 16) (eC (.str "much"))) aNil))))) (sRet (eC (.bool false))) sNil)
abbrev e_law_26 : Ef := (eCallF 4 m__law_told (aCons (eC (.int 0)) (aCons (eV 10) (aCons (eC (.int 1)) (aCons (eV 2) aNil)))))
abbrev e_law_27 : Ef := (eCallF 4 m__law_told (aCons (eC (.int 0)) (aCons (eC (.int 1)) (aCons (eV 10) (aCons (eV 2) aNil)))))
abbrev s_law_28 : Sf := (sAsg (eBin dAdd (eFz (oLc (iS (eFz (oLst (lC (eC (.int 0)) (lC (eC (.int 11)) lN))))) (gN 10) oYes e_law_26 [10])) (eFz (oLc (iS (eFz (oLst (lC (eC (.int 0)) (lC (eC (.int 5)) lN))))) (gN 10) oYes e_law_27 [10]))) (gN 17))
abbrev s_law_29 : Sf := (sIf (tOo (tCm dNe (eBw 17) (eBin dMul (eFz (oLst (lC (eC (.str "range")) lN))) (eC (.int 4)))) (tOo (tCm dNe (eCallF 4 m__law_told (aCons (eC (.int 0)) (aCons (eC (.int 9)) (aCons (eC (.int 1)) (aCons (eV 2) aNil))))) (eC (.str "refused"))) (tOo (tCm dNe (eCallF 4 m__law_told (aCons (eC (.int 1)) (aCons (eTup (lC (eC (.int 1000)) (lC (eC (.int 1)) lN))) (aCons (eC .none) (aCons (eTup (lC (eC (.int 1)) (lC (eC (.int 1000)) lN))) aNil))))) (eC (.str "much"))) (tCm dNe (eCallF 4 m__law_told (aCons (eC (.int 1)) (aCons (eTup (lC (eC (.int 1)) (lC (eC (.int 2)) lN))) (aCons (eC .none) (aCons (eV 2) aNil))))) (eC (.int 0)))))) (sRet (eC (.bool false))) sNil)
abbrev s_law_30 : Sf := (sAsg (eFz (oLst (lC (eC .none) (lC (eFz (oCall gList (lC (eBw 3) lN))) (lC (eTup lN) (lC (eBin dMul (eTup (lC (eC (.int 1)) lN)) (eC (.int 5))) (lC (eTup (lC (eC (.int 0)) lN)) (lC (eTup (lC (eC (.int 9)) lN)) (lC (eTup (lC (eNeg (eC (.int 1))) lN)) (lC (eTup (lC (eC (.bool true)) lN)) (lC (eTup (lC (eC .none) lN)) lN))))))))))) (gN 18))
abbrev s_law_31 : Sf := (sRet (eBin dEq (eFz (oLc (iS (eV 18)) (gN 20) (tCm dNis (eCallF 1 m_is_tackle (aCons (eV 20) aNil)) (eC (.bool false))) (eV 20) [20])) (eFz (oLst lN))))
/- slots of law: 0:script 1:draws 2:grip 3:tackle 4:whole 5:rolls 6:single 7:roll 8:most 9:best 10:one 11:told 12:more 13:wider 14:load 15:lifted 16:many 17:words 18:odd 19:k 20:value -/
def f_law0 : Ev → Wd → R (List D) := (oCallF 1 m__law_draws (aSl 0 aNil))
def f_law : Sf := (sSeq s_law_0
  (sSeq s_law_2
  (sSeq s_law_3
  (sSeq s_law_4
  (sSeq s_law_5
  (sSeq s_law_6
  (sSeq s_law_7
  (sSeq s_law_9
  (sSeq s_law_10
  (sSeq s_law_11
  (sSeq s_law_12
  (sSeq s_law_14
  (sSeq s_law_15
  (sSeq s_law_16
  (sSeq s_law_17
  (sSeq s_law_18
  (sSeq s_law_19
  (sSeq s_law_20
  (sSeq s_law_21
  (sSeq s_law_24
  (sSeq s_law_25
  (sSeq s_law_28
  (sSeq s_law_29
  (sSeq s_law_30
  s_law_31))))))))))))))))))))))))
structure Fx (K : PySem.W.Frag) (mg : Str → Option Value) (base : Heap) (T : Addr → Prop) (a_Malformed a_NotThere a_OutOfRange a_Refused a_TooMuch a_CampError : Addr) : Prop where
  b_abs : mg "abs" = none
  b_all : mg "all" = none
  b_bool : mg "bool" = none
  b_int : mg "int" = none
  b_isinstance : mg "isinstance" = none
  b_len : mg "len" = none
  b_list : mg "list" = none
  b_min : mg "min" = none
  b_range : mg "range" = none
  b_reversed : mg "reversed" = none
  b_str : mg "str" = none
  b_sum : mg "sum" = none
  b_tuple : mg "tuple" = none
  g_gcd : mg "gcd" = some (.builtin "math.gcd")
  c_MOST_FEWEST : ∃ t, mg "MOST_FEWEST" = some (.int 60 t)
  c_MOST_PARTS : ∃ t, mg "MOST_PARTS" = some (.int 4 t)
  c_MOST_ROLLS : ∃ t, mg "MOST_ROLLS" = some (.int 8 t)
  c_MOST_TOGETHER : ∃ t, mg "MOST_TOGETHER" = some (.int 10 t)
  x_OutOfRange : ExD K mg "OutOfRange" a_OutOfRange "ValueError" "ValueError.__new__" "ValueError.__init__" [.type "ValueError", .type "Exception", .type "BaseException", .type "object"]
  xc_OutOfRange : ExcC K a_OutOfRange
  xk_OutOfRange : PySem.W.kitOne K (.ref a_OutOfRange) (.ref a_OutOfRange) = some true
  xm_OutOfRange_CampError : PySem.W.exmOne K (.ref a_OutOfRange) (.ref a_CampError) = some true
  x_Refused : ExD K mg "Refused" a_Refused "ValueError" "ValueError.__new__" "ValueError.__init__" [.type "ValueError", .type "Exception", .type "BaseException", .type "object"]
  xc_Refused : ExcC K a_Refused
  xk_Refused : PySem.W.kitOne K (.ref a_Refused) (.ref a_Refused) = some true
  xm_Refused_CampError : PySem.W.exmOne K (.ref a_Refused) (.ref a_CampError) = some true
  x_TooMuch : ExD K mg "TooMuch" a_TooMuch "ValueError" "ValueError.__new__" "ValueError.__init__" [.type "ValueError", .type "Exception", .type "BaseException", .type "object"]
  xc_TooMuch : ExcC K a_TooMuch
  xk_TooMuch : PySem.W.kitOne K (.ref a_TooMuch) (.ref a_TooMuch) = some true
  xm_TooMuch_CampError : PySem.W.exmOne K (.ref a_TooMuch) (.ref a_CampError) = some true
  xg_CampError : mg "CampError" = some (.ref a_CampError)
  xg_Malformed : mg "Malformed" = some (.ref a_Malformed)
  xg_NotThere : mg "NotThere" = some (.ref a_NotThere)
  xg_OutOfRange : mg "OutOfRange" = some (.ref a_OutOfRange)
  xg_Refused : mg "Refused" = some (.ref a_Refused)
  xg_TooMuch : mg "TooMuch" = some (.ref a_TooMuch)
  xk_OutOfRange_Malformed : PySem.W.kitOne K (.ref a_OutOfRange) (.ref a_Malformed) = some false
  xk_OutOfRange_NotThere : PySem.W.kitOne K (.ref a_OutOfRange) (.ref a_NotThere) = some false
  xk_OutOfRange_OutOfRange : PySem.W.kitOne K (.ref a_OutOfRange) (.ref a_OutOfRange) = some true
  xk_OutOfRange_Refused : PySem.W.kitOne K (.ref a_OutOfRange) (.ref a_Refused) = some false
  xk_OutOfRange_TooMuch : PySem.W.kitOne K (.ref a_OutOfRange) (.ref a_TooMuch) = some false
  xk_Refused_Malformed : PySem.W.kitOne K (.ref a_Refused) (.ref a_Malformed) = some false
  xk_Refused_NotThere : PySem.W.kitOne K (.ref a_Refused) (.ref a_NotThere) = some false
  xk_Refused_OutOfRange : PySem.W.kitOne K (.ref a_Refused) (.ref a_OutOfRange) = some false
  xk_Refused_Refused : PySem.W.kitOne K (.ref a_Refused) (.ref a_Refused) = some true
  xk_Refused_TooMuch : PySem.W.kitOne K (.ref a_Refused) (.ref a_TooMuch) = some false
  xk_TooMuch_Malformed : PySem.W.kitOne K (.ref a_TooMuch) (.ref a_Malformed) = some false
  xk_TooMuch_NotThere : PySem.W.kitOne K (.ref a_TooMuch) (.ref a_NotThere) = some false
  xk_TooMuch_OutOfRange : PySem.W.kitOne K (.ref a_TooMuch) (.ref a_OutOfRange) = some false
  xk_TooMuch_Refused : PySem.W.kitOne K (.ref a_TooMuch) (.ref a_Refused) = some false
  xk_TooMuch_TooMuch : PySem.W.kitOne K (.ref a_TooMuch) (.ref a_TooMuch) = some true
  d_is_number : ∃ f fd, Df K mg "is_number" st_is_number ["value", "least", "most"] f fd
  d_lowest : ∃ f fd, Df K mg "lowest" st_lowest ["part", "whole"] f fd
  d_plus : ∃ f fd, Df K mg "plus" st_plus ["one", "other"] f fd
  d_times : ∃ f fd, Df K mg "times" st_times ["one", "other"] f fd
  d_less : ∃ f fd, Df K mg "less" st_less ["one", "other"] f fd
  d_is_tackle : ∃ f fd c Q, Dt K mg base T "is_tackle" st_is_tackle ["value"] f fd c Q
  d_part_lifts : ∃ f fd, Df K mg "part_lifts" st_part_lifts ["rolls", "grip"] f fd
  d_lifts : ∃ f fd, Df K mg "lifts" st_lifts ["tackle", "grip"] f fd
  d_tackles_of : ∃ f fd, Df K mg "tackles_of" st_tackles_of ["rolls", "most"] f fd
  d_is_better : ∃ f fd, Df K mg "is_better" st_is_better ["grip", "one", "other"] f fd
  d_best_tackle : ∃ f fd, Df K mg "best_tackle" st_best_tackle ["rolls", "most", "grip"] f fd
  d_fewest_rolls : ∃ f fd, Df K mg "fewest_rolls" st_fewest_rolls ["load", "grip"] f fd
  d__law_draws : ∃ f fd, Df K mg "_law_draws" st__law_draws ["script"] f fd
  d__law_take : ∃ f fd, Df K mg "_law_take" st__law_take ["draws", "bound"] f fd
  d__law_says : ∃ f fd, Df K mg "_law_says" st__law_says ["told", "due"] f fd
  d__law_alike : ∃ f fd, Df K mg "_law_alike" st__law_alike ["found", "due"] f fd
  d__law_word : ∃ f fd, Df K mg "_law_word" st__law_word ["error"] f fd
  d__law_gcd : ∃ f fd, Df K mg "_law_gcd" st__law_gcd ["one", "other"] f fd
  d__law_part : ∃ f fd, Df K mg "_law_part" st__law_part ["one", "other"] f fd
  d__law_plus : ∃ f fd, Df K mg "_law_plus" st__law_plus ["one", "other"] f fd
  d__law_minus : ∃ f fd, Df K mg "_law_minus" st__law_minus ["one", "other"] f fd
  d__law_times : ∃ f fd, Df K mg "_law_times" st__law_times ["one", "other"] f fd
  d__law_less : ∃ f fd, Df K mg "_law_less" st__law_less ["one", "other"] f fd
  d__law_sum : ∃ f fd, Df K mg "_law_sum" st__law_sum ["rows"] f fd
  d__law_told : ∃ f fd, Df K mg "_law_told" st__law_told ["which", "one", "other", "grip"] f fd
  d__law_lifts : ∃ f fd, Df K mg "_law_lifts" st__law_lifts ["tackle", "grip"] f fd
  d__law_tackles : ∃ f fd, Df K mg "_law_tackles" st__law_tackles ["rolls", "most"] f fd
section
variable {P : Program} {w : World} {K : PySem.W.Frag} {mg : Str → Option Value} {base : Heap} {T : Addr → Prop} {a_Malformed a_NotThere a_OutOfRange a_Refused a_TooMuch a_CampError : Addr}
theorem k_is_number (W : Fx K mg base T a_Malformed a_NotThere a_OutOfRange a_Refused a_TooMuch a_CampError) : Kf P w K mg base T 1 "is_number" 3 m_is_number := by
  obtain ⟨f, fd, D0⟩ := W.d_is_number
  exact fn_d (k := 0) D0 sc_is_number fun cdv A outer s H E hcd hr =>
    (ss_one (ss_ret (se_and (se_is rfl W.b_isinstance (by decide +kernel) rfl W.b_int (by decide +kernel) (sb_var (pv 0))) (se_and (se_not (sb (se_is rfl W.b_isinstance (by decide +kernel) rfl W.b_bool (by decide +kernel) (sb_var (pv 0))))) (se_one (se_chain od_le od_le (sb_var (pv 1)) (sb_var (pv 0)) (sb_var (pv 2))))))))
theorem k_lowest (W : Fx K mg base T a_Malformed a_NotThere a_OutOfRange a_Refused a_TooMuch a_CampError) : Kf P w K mg base T 1 "lowest" 2 m_lowest := by
  obtain ⟨f, fd, D0⟩ := W.d_lowest
  exact fn_d (k := 0) D0 sc_lowest fun cdv A outer s H E hcd hr =>
    (ss_cons (ss_set (i := 2) (se_callFn cd_gcd rfl W.g_gcd (lb_cons (sb_var (pv 0)) (lb_cons (sb_var (pv 1)) lb_nil))) sc_lowest.nd rfl (by first | exact Or.inl rfl | exact Or.inr rfl))
    (ss_cons (ss_if (st_cmp od_lt (sb_var (pv 1)) (sb se_int) (by first | rfl | exact nomark _))
    (ss_one (ss_set (i := 2) (se_neg (sb_var (pv 2))) sc_lowest.nd rfl (by first | exact Or.inl rfl | exact Or.inr rfl)))
    ss_nil)
    (ss_one (ss_ret (se_tup (sl_cons (se_bin od_fdiv (sb_var (pv 0)) (sb_var (pv 2))) (sl_cons (se_bin od_fdiv (sb_var (pv 1)) (sb_var (pv 2))) sl_nil)))))))
theorem k_plus (W : Fx K mg base T a_Malformed a_NotThere a_OutOfRange a_Refused a_TooMuch a_CampError) : Kf P w K mg base T 2 "plus" 2 m_plus := by
  obtain ⟨f, fd, D0⟩ := W.d_plus
  exact fn_d (k := 1) D0 sc_plus fun cdv A outer s H E hcd hr =>
    (ss_one (ss_ret (se_callD ((k_lowest W).up (by omega)) hr (L2N.takes_of rfl rfl rfl rfl) (sa_cons (se_bin od_add (sb (se_bin od_mul (sb (se_ix (sb_var (pv 0)) (sb se_int))) (sb (se_ix (sb_var (pv 1)) (sb se_int))))) (sb (se_bin od_mul (sb (se_ix (sb_var (pv 1)) (sb se_int))) (sb (se_ix (sb_var (pv 0)) (sb se_int)))))) (sa_cons (se_bin od_mul (sb (se_ix (sb_var (pv 0)) (sb se_int))) (sb (se_ix (sb_var (pv 1)) (sb se_int)))) sa_nil)))))
theorem k_times (W : Fx K mg base T a_Malformed a_NotThere a_OutOfRange a_Refused a_TooMuch a_CampError) : Kf P w K mg base T 2 "times" 2 m_times := by
  obtain ⟨f, fd, D0⟩ := W.d_times
  exact fn_d (k := 1) D0 sc_times fun cdv A outer s H E hcd hr =>
    (ss_one (ss_ret (se_callD ((k_lowest W).up (by omega)) hr (L2N.takes_of rfl rfl rfl rfl) (sa_cons (se_bin od_mul (sb (se_ix (sb_var (pv 0)) (sb se_int))) (sb (se_ix (sb_var (pv 1)) (sb se_int)))) (sa_cons (se_bin od_mul (sb (se_ix (sb_var (pv 0)) (sb se_int))) (sb (se_ix (sb_var (pv 1)) (sb se_int)))) sa_nil)))))
theorem k_less (W : Fx K mg base T a_Malformed a_NotThere a_OutOfRange a_Refused a_TooMuch a_CampError) : Kf P w K mg base T 1 "less" 2 m_less := by
  obtain ⟨f, fd, D0⟩ := W.d_less
  exact fn_d (k := 0) D0 sc_less fun cdv A outer s H E hcd hr =>
    (ss_one (ss_ret (se_cmp od_lt (sb (se_bin od_mul (sb (se_ix (sb_var (pv 0)) (sb se_int))) (sb (se_ix (sb_var (pv 1)) (sb se_int))))) (sb (se_bin od_mul (sb (se_ix (sb_var (pv 1)) (sb se_int))) (sb (se_ix (sb_var (pv 0)) (sb se_int))))) (by first | rfl | exact nomark _))))
theorem k_is_tackle (W : Fx K mg base T a_Malformed a_NotThere a_OutOfRange a_Refused a_TooMuch a_CampError) : Kf P w K mg base T 3 "is_tackle" 1 m_is_tackle := by
  obtain ⟨f, fd, c, Q, Dq⟩ := W.d_is_tackle
  have D0 := Dq.d
  exact fn_d (k := 2) D0 sc_is_tackle fun cdv A outer s H E hcd hr =>
    (ss_cons (ss_if (PW.pt (sw_or (st_not (st_val (sb (se_is rfl W.b_isinstance (by decide +kernel) rfl W.b_tuple (by decide +kernel) (sb_var (pv 0)))))) (sw_or1 (st_not (st_chain od_le od_le (sb se_int) (sb (se_callB cd_len rfl W.b_len (by decide +kernel) (lb_cons (sb_var (pv 0)) lb_nil))) (sb (se_gint W.c_MOST_PARTS)))))))
    (ss_one (ss_ret se_bl))
    ss_nil)
    (ss_one (ss_ret (se_all (own := [("rolls", 1)]) (k := 1) Dq.tq hr rfl W.b_all (by decide +kernel) Dq.tb (hcd.symm.trans Dq.cd) (gsc_by (N := ["value", "rolls"]) (sc := defScope st_is_tackle) (by decide +kernel)) sc_is_tackle.nd (by decide) (si_seq (se_var (pv 0))) (fun _ _ _ _ _ _ _ _ => (sg_name (pg_name (i := 1) sc_is_tackle.nd rfl (by first | exact Or.inl rfl | exact Or.inr rfl)))) (fun _ _ _ _ _ _ _ hr1 => pts_t0) (fun _ _ _ _ _ _ _ hr1 => (se_callD ((k_is_number W).up (by omega)) hr1 takesN0 (sa_cons (se_var (pv 1)) (sa_cons se_int (sa_cons (se_gint W.c_MOST_ROLLS) sa_nil)))))))))
theorem k_part_lifts (W : Fx K mg base T a_Malformed a_NotThere a_OutOfRange a_Refused a_TooMuch a_CampError) : Kf P w K mg base T 3 "part_lifts" 2 m_part_lifts := by
  obtain ⟨f, fd, D0⟩ := W.d_part_lifts
  exact fn_d (k := 2) D0 sc_part_lifts fun cdv A outer s H E hcd hr =>
    (ss_cons (ss_asg (se_tup (sl_cons (se_tup (sl_cons se_int (sl_cons se_int sl_nil))) (sl_cons (se_tup (sl_cons se_int (sl_cons se_int sl_nil))) sl_nil))) (sg_tup rfl (sgs_cons (sg_name (pg_name (i := 2) sc_part_lifts.nd rfl (by first | exact Or.inl rfl | exact Or.inr rfl))) (sgs_cons (sg_name (pg_name (i := 3) sc_part_lifts.nd rfl (by first | exact Or.inl rfl | exact Or.inr rfl))) sgs_nil))))
    (ss_cons (ss_for (passes_of rfl) rfl (si_r1 rfl W.b_range (sb_var (pv 0))) (sg_name (pg_name (i := 4) sc_part_lifts.nd rfl (by first | exact Or.inl rfl | exact Or.inr rfl)))
    (ss_cons (ss_set (i := 3) (se_callD ((k_times W).up (by omega)) hr (L2N.takes_of rfl rfl rfl rfl) (sa_cons (se_var (pv 3)) (sa_cons (se_var (pv 1)) sa_nil))) sc_part_lifts.nd rfl (by first | exact Or.inl rfl | exact Or.inr rfl))
    (ss_one (ss_set (i := 2) (se_callD ((k_plus W).up (by omega)) hr (L2N.takes_of rfl rfl rfl rfl) (sa_cons (se_var (pv 2)) (sa_cons (se_var (pv 3)) sa_nil))) sc_part_lifts.nd rfl (by first | exact Or.inl rfl | exact Or.inr rfl)))) (by intro _; rfl))
    (ss_one (ss_ret (se_var (pv 2))))))
theorem k_lifts (W : Fx K mg base T a_Malformed a_NotThere a_OutOfRange a_Refused a_TooMuch a_CampError) : Kf P w K mg base T 4 "lifts" 2 m_lifts := by
  obtain ⟨f, fd, D0⟩ := W.d_lifts
  exact fn_d (k := 3) D0 sc_lifts fun cdv A outer s H E hcd hr =>
    (ss_cons (ss_set (i := 2) (se_tup (sl_cons se_int (sl_cons se_int sl_nil))) sc_lifts.nd rfl (by first | exact Or.inl rfl | exact Or.inr rfl))
    (ss_cons (ss_for (passes_of rfl) rfl (si_seq (se_var (pv 0))) (sg_name (pg_name (i := 3) sc_lifts.nd rfl (by first | exact Or.inl rfl | exact Or.inr rfl)))
    (ss_one (ss_set (i := 2) (se_callD ((k_times W).up (by omega)) hr (L2N.takes_of rfl rfl rfl rfl) (sa_cons (se_var (pv 2)) (sa_cons (se_callD ((k_part_lifts W).up (by omega)) hr (L2N.takes_of rfl rfl rfl rfl) (sa_cons (se_var (pv 3)) (sa_cons (se_var (pv 1)) sa_nil))) sa_nil))) sc_lifts.nd rfl (by first | exact Or.inl rfl | exact Or.inr rfl))) (by intro _; rfl))
    (ss_one (ss_ret (se_var (pv 2))))))
theorem k_tackles_of (W : Fx K mg base T a_Malformed a_NotThere a_OutOfRange a_Refused a_TooMuch a_CampError) : Kf P w K mg base T 1 "tackles_of" 2 m_tackles_of := by
  obtain ⟨f, fd, D0⟩ := W.d_tackles_of
  exact fn_d (k := 0) D0 sc_tackles_of fun cdv A outer s H E hcd hr =>
    (ss_cons (ss_parO (i := 2) (j := 3) rfl sc_tackles_of.nd rfl rfl (by decide) rfl rfl (so_lst sl_nil) (se_of (so_lst (sl_cons (se_tup (sl_cons (se_tup sl_nil) (sl_cons (se_var (pv 0)) sl_nil))) sl_nil))) (by first | rfl | with_unfolding_all rfl))
    (ss_cons (ss_while 16 (passes_of rfl) (st_cmp od_gt (sb (se_callB cd_len rfl W.b_len (by decide +kernel) (lb_cons (sb_var (pv 3)) lb_nil))) (sb se_int) (by first | rfl | exact nomark _))
    (ss_cons (ss_own (i := 4) (so_lst sl_nil) sc_tackles_of.nd rfl (by first | exact Or.inl rfl | exact Or.inr rfl))
    (ss_cons (ss_for (passes_of rfl) rfl (si_seq (se_var (pv 3))) (sg_tup rfl (sgs_cons (sg_name (pg_name (i := 5) sc_tackles_of.nd rfl (by first | exact Or.inl rfl | exact Or.inr rfl))) (sgs_cons (sg_name (pg_name (i := 6) sc_tackles_of.nd rfl (by first | exact Or.inl rfl | exact Or.inr rfl))) sgs_nil)))
    (ss_one (ss_if (st_cmp (od_eq (hu_r hr)) (sb_var (pv 6)) (sb se_int) (by first | rfl | exact nomark _))
    (ss_one (ss_append (i := 2) (pv 2) (se_var (pv 5))))
    (ss_one (ss_if (st_cmp od_lt (sb (se_callB cd_len rfl W.b_len (by decide +kernel) (lb_cons (sb_var (pv 5)) lb_nil))) (sb_var (pv 1)) (by first | rfl | exact nomark _))
    (ss_one (ss_augE (i := 4) sc_tackles_of.nd rfl (by first | exact Or.inl rfl | exact Or.inr rfl) (se_of (so_lc rfl sc_tackles_of.nd (own := [("one", 7)]) (si_r2 rfl W.b_range (sb se_int) (sb (se_bin od_add (sb (se_callB (cd_min rfl (hu_r hr)) rfl W.b_min (by decide +kernel) (lb_cons (sb_var (pv 6)) (lb_cons (sb (se_gint W.c_MOST_ROLLS)) lb_nil)))) (sb se_int)))) (blkOk_by (N := ["rolls", "most", "found", "edge", "later", "row", "left", "one"]) (sc := defScope st_tackles_of) (by decide +kernel)) (by decide) (fun _ _ _ _ _ => (sg_name (pg_name (i := 7) sc_tackles_of.nd rfl (by first | exact Or.inl rfl | exact Or.inr rfl)))) (fun _ _ _ _ _ => pts_t0) (fun _ _ _ _ _ => (se_tup (sl_cons (se_tup (sl_star (se_var (pv 5)) (sl_cons (se_var (pv 7)) sl_nil))) (sl_cons (se_bin od_sub (sb_var (pv 6)) (sb_var (pv 7))) sl_nil))))))))
    ss_nil)))) (by intro _; rfl))
    (ss_fz 4 (ss_one (ss_set (i := 3) (se_var (pv 4)) sc_tackles_of.nd rfl (by first | exact Or.inl rfl | exact Or.inr rfl)))))))
    (ss_fz 2 (ss_one (ss_ret (se_var (pv 2)))))))
theorem k_is_better (W : Fx K mg base T a_Malformed a_NotThere a_OutOfRange a_Refused a_TooMuch a_CampError) : Kf P w K mg base T 5 "is_better" 3 m_is_better := by
  obtain ⟨f, fd, D0⟩ := W.d_is_better
  exact fn_d (k := 4) D0 sc_is_better fun cdv A outer s H E hcd hr =>
    (ss_cons (ss_par (i := 3) (j := 4) rfl sc_is_better.nd rfl rfl (by decide) rfl rfl (sl_cons (se_callD ((k_lifts W).up (by omega)) hr (L2N.takes_of rfl rfl rfl rfl) (sa_cons (se_var (pv 1)) (sa_cons (se_var (pv 0)) sa_nil))) (sl_cons (se_callD ((k_lifts W).up (by omega)) hr (L2N.takes_of rfl rfl rfl rfl) (sa_cons (se_var (pv 2)) (sa_cons (se_var (pv 0)) sa_nil))) sl_nil)) (by first | rfl | with_unfolding_all rfl))
    (ss_cons (ss_if (st_cmp (od_ne (hu_r hr)) (sb_var (pv 3)) (sb_var (pv 4)) (by first | rfl | exact nomark _))
    (ss_one (ss_ret (se_callD ((k_less W).up (by omega)) hr (L2N.takes_of rfl rfl rfl rfl) (sa_cons (se_var (pv 4)) (sa_cons (se_var (pv 3)) sa_nil)))))
    ss_nil)
    (ss_one (ss_ret (se_cmp (od_ltT (hu_r hr)) (sb (se_tup (sl_cons (se_callB cd_len rfl W.b_len (by decide +kernel) (lb_cons (sb_var (pv 1)) lb_nil)) (sl_cons (se_var (pv 1)) sl_nil)))) (sb (se_tup (sl_cons (se_callB cd_len rfl W.b_len (by decide +kernel) (lb_cons (sb_var (pv 2)) lb_nil)) (sl_cons (se_var (pv 2)) sl_nil)))) (by first | rfl | exact nomark _))))))
theorem k_best_tackle (W : Fx K mg base T a_Malformed a_NotThere a_OutOfRange a_Refused a_TooMuch a_CampError) : Kf P w K mg base T 6 "best_tackle" 3 m_best_tackle := by
  obtain ⟨f, fd, D0⟩ := W.d_best_tackle
  exact fn_d (k := 5) D0 sc_best_tackle fun cdv A outer s H E hcd hr =>
    (ss_cons (ss_if (PW.pt (sw_or (st_not (st_val (sb (se_callD ((k_is_number W).up (by omega)) hr (L2N.takes_of rfl rfl rfl rfl) (sa_cons (se_var (pv 0)) (sa_cons se_int (sa_cons (se_gint W.c_MOST_TOGETHER) sa_nil))))))) (sw_or1 (st_not (st_val (sb (se_callD ((k_is_number W).up (by omega)) hr (L2N.takes_of rfl rfl rfl rfl) (sa_cons (se_var (pv 1)) (sa_cons se_int (sa_cons (se_gint W.c_MOST_PARTS) sa_nil))))))))))
    (ss_one (ss_raise W.x_OutOfRange rfl (L2N.takes_of rfl rfl rfl rfl)))
    ss_nil)
    (ss_cons (ss_set (i := 3) se_non sc_best_tackle.nd rfl (by first | exact Or.inl rfl | exact Or.inr rfl))
    (ss_cons (ss_for (passes_of rfl) rfl (si_seq (se_callD ((k_tackles_of W).up (by omega)) hr (L2N.takes_of rfl rfl rfl rfl) (sa_cons (se_var (pv 0)) (sa_cons (se_var (pv 1)) sa_nil)))) (sg_name (pg_name (i := 4) sc_best_tackle.nd rfl (by first | exact Or.inl rfl | exact Or.inr rfl)))
    (ss_one (ss_if (PW.pt (sw_or (st_cmp od_is (sb_var (pv 3)) (sb se_non) (by first | rfl | exact nomark _)) (sw_or1 (st_val (sb (se_callD ((k_is_better W).up (by omega)) hr (L2N.takes_of rfl rfl rfl rfl) (sa_cons (se_var (pv 2)) (sa_cons (se_var (pv 4)) (sa_cons (se_var (pv 3)) sa_nil)))))))))
    (ss_one (ss_set (i := 3) (se_var (pv 4)) sc_best_tackle.nd rfl (by first | exact Or.inl rfl | exact Or.inr rfl)))
    ss_nil)) (by intro _; rfl))
    (ss_cons (ss_if (st_cmp od_is (sb_var (pv 3)) (sb se_non) (by first | rfl | exact nomark _))
    (ss_one (ss_raise W.x_Refused rfl (L2N.takes_of rfl rfl rfl rfl)))
    ss_nil)
    (ss_one (ss_ret (se_var (pv 3))))))))
theorem k_fewest_rolls (W : Fx K mg base T a_Malformed a_NotThere a_OutOfRange a_Refused a_TooMuch a_CampError) : Kf P w K mg base T 3 "fewest_rolls" 2 m_fewest_rolls := by
  obtain ⟨f, fd, D0⟩ := W.d_fewest_rolls
  exact fn_d (k := 2) D0 sc_fewest_rolls fun cdv A outer s H E hcd hr =>
    (ss_cons (ss_asg (se_tup (sl_cons (se_tup (sl_cons se_int (sl_cons se_int sl_nil))) (sl_cons se_int sl_nil))) (sg_tup rfl (sgs_cons (sg_name (pg_name (i := 2) sc_fewest_rolls.nd rfl (by first | exact Or.inl rfl | exact Or.inr rfl))) (sgs_cons (sg_name (pg_name (i := 3) sc_fewest_rolls.nd rfl (by first | exact Or.inl rfl | exact Or.inr rfl))) sgs_nil))))
    (ss_cons (ss_while 64 (passes_of rfl) (st_val (sb (se_callD ((k_less W).up (by omega)) hr (L2N.takes_of rfl rfl rfl rfl) (sa_cons (se_var (pv 2)) (sa_cons (se_var (pv 0)) sa_nil)))))
    (ss_cons (ss_if (st_cmp (od_eq (hu_r hr)) (sb_var (pv 3)) (sb (se_gint W.c_MOST_FEWEST)) (by first | rfl | exact nomark _))
    (ss_one (ss_raise W.x_TooMuch rfl (L2N.takes_of rfl rfl rfl rfl)))
    ss_nil)
    (ss_cons (ss_set (i := 2) (se_callD ((k_times W).up (by omega)) hr (L2N.takes_of rfl rfl rfl rfl) (sa_cons (se_var (pv 2)) (sa_cons (se_callD ((k_plus W).up (by omega)) hr (L2N.takes_of rfl rfl rfl rfl) (sa_cons (se_tup (sl_cons se_int (sl_cons se_int sl_nil))) (sa_cons (se_var (pv 1)) sa_nil))) sa_nil))) sc_fewest_rolls.nd rfl (by first | exact Or.inl rfl | exact Or.inr rfl))
    (ss_one (ss_aug (i := 3) iod_add sc_fewest_rolls.nd rfl (by first | exact Or.inl rfl | exact Or.inr rfl) (sb se_int))))))
    (ss_one (ss_ret (se_var (pv 3))))))
theorem k__law_draws (W : Fx K mg base T a_Malformed a_NotThere a_OutOfRange a_Refused a_TooMuch a_CampError) : KfO P w K mg base T 1 "_law_draws" 1 m__law_draws := by
  obtain ⟨f, fd, D0⟩ := W.d__law_draws
  exact fn_o (k := 0) D0 sc__law_draws fun cdv A outer s H E hcd hr =>
    (ss_cons (ss_own (i := 1) (so_lst sl_nil) sc__law_draws.nd rfl (by first | exact Or.inl rfl | exact Or.inr rfl))
    (ss_cons (ss_for (passes_of rfl) rfl (si_sc (pv 0)) (sg_name (pg_name (i := 2) sc__law_draws.nd rfl (by first | exact Or.inl rfl | exact Or.inr rfl)))
    (ss_cons (ss_set (i := 5) (se_callB cd_abs rfl W.b_abs (by decide +kernel) (lb_cons (sb_var (pv 2)) lb_nil)) sc__law_draws.nd rfl (by first | exact Or.inl rfl | exact Or.inr rfl))
    (ss_cons (ss_if (st_cmp od_lt (sb_var (pv 5)) (sb (se_bin od_pow (sb se_int) (sb se_int))) (by first | rfl | exact nomark _))
    (ss_cons (ss_set (i := 6) (se_bin od_mod (sb (se_callTy cd_int rfl W.b_int (by decide +kernel) (lb_cons (sb (se_bin od_add (sb (se_bin od_mul (sb_var (pv 5)) (sb se_int))) (sb se_int))) lb_nil))) (sb se_int)) sc__law_draws.nd rfl (by first | exact Or.inl rfl | exact Or.inr rfl))
    (ss_cons (ss_append (i := 1) (pv 1) (se_bin od_mod (sb (se_callTy cd_int rfl W.b_int (by decide +kernel) (lb_cons (sb (se_bin od_add (sb (se_bin od_mul (sb_var (pv 6)) (sb se_int))) (sb_var (pv 5)))) lb_nil))) (sb se_int)))
    (ss_cons (ss_append (i := 1) (pv 1) (se_bin od_mod (sb (se_callTy cd_int rfl W.b_int (by decide +kernel) (lb_cons (sb (se_bin od_add (sb_var (pv 6)) (sb (se_bin od_fdiv (sb_var (pv 5)) (sb se_int))))) lb_nil))) (sb se_int)))
    (ss_one (ss_set (i := 5) se_int sc__law_draws.nd rfl (by first | exact Or.inl rfl | exact Or.inr rfl))))))
    ss_nil)
    (ss_one (ss_for (passes_of rfl) rfl (si_r1 rfl W.b_range (sb se_int)) (sg_name (pg_name (i := 4) sc__law_draws.nd rfl (by first | exact Or.inl rfl | exact Or.inr rfl)))
    (ss_one (ss_if (st_cmp od_gt (sb_var (pv 5)) (sb se_int) (by first | rfl | exact nomark _))
    (ss_cons (ss_append (i := 1) (pv 1) (se_bin od_mod (sb (se_callTy cd_int rfl W.b_int (by decide +kernel) (lb_cons (sb_var (pv 5)) lb_nil))) (sb se_int)))
    (ss_one (ss_set (i := 5) (se_bin od_fdiv (sb_var (pv 5)) (sb se_int)) sc__law_draws.nd rfl (by first | exact Or.inl rfl | exact Or.inr rfl))))
    ss_nil)) (by intro _; rfl))))) (by intro _; rfl))
    (ss_cons (ss_set (i := 3) se_int sc__law_draws.nd rfl (by first | exact Or.inl rfl | exact Or.inr rfl))
    (ss_cons (ss_if (st_cmp od_gt (sb (se_drLen rfl W.b_len (by decide +kernel) (pv 0))) (sb se_int) (by first | rfl | exact nomark _))
    (ss_one (ss_set (i := 3) (se_bin od_add (sb se_int) (sb (se_callB cd_abs rfl W.b_abs (by decide +kernel) (lb_cons (sb (se_scIx (pv 0) se_int)) lb_nil)))) sc__law_draws.nd rfl (by first | exact Or.inl rfl | exact Or.inr rfl)))
    ss_nil)
    (ss_cons (ss_for (passes_of rfl) rfl (si_r1 rfl W.b_range (sb se_int)) (sg_name (pg_name (i := 4) sc__law_draws.nd rfl (by first | exact Or.inl rfl | exact Or.inr rfl)))
    (ss_cons (ss_set (i := 3) (se_bin od_mod (sb (se_callTy cd_int rfl W.b_int (by decide +kernel) (lb_cons (sb (se_bin od_add (sb (se_bin od_mul (sb_var (pv 3)) (sb se_int))) (sb se_int))) lb_nil))) (sb se_int)) sc__law_draws.nd rfl (by first | exact Or.inl rfl | exact Or.inr rfl))
    (ss_one (ss_append (i := 1) (pv 1) (se_bin od_fdiv (sb_var (pv 3)) (sb se_int))))) (by intro _; rfl))
    (ss_fz 1 (ss_one (ss_retO (so_rev rfl rfl W.b_list (by decide +kernel) rfl W.b_reversed (sb_var (pv 1)))))))))))
theorem k__law_take (W : Fx K mg base T a_Malformed a_NotThere a_OutOfRange a_Refused a_TooMuch a_CampError) : Kf P w K mg base T 1 "_law_take" 2 m__law_take := by
  obtain ⟨f, fd, D0⟩ := W.d__law_take
  exact fn_d (k := 0) D0 sc__law_take fun cdv A outer s H E hcd hr =>
    (ss_cons (ss_if (st_cmp (od_eq (hu_r hr)) (sb (se_drLen rfl W.b_len (by decide +kernel) (pv 0))) (sb se_int) (by first | rfl | exact nomark _))
    (ss_one (ss_ret se_int))
    ss_nil)
    (ss_one (ss_ret (se_bin od_mod (sb (se_callTy cd_int rfl W.b_int (by decide +kernel) (lb_cons (sb (se_drPop (pv 0))) lb_nil))) (sb_var (pv 1))))))
theorem k__law_says (W : Fx K mg base T a_Malformed a_NotThere a_OutOfRange a_Refused a_TooMuch a_CampError) : Kf P w K mg base T 1 "_law_says" 2 m__law_says := by
  obtain ⟨f, fd, D0⟩ := W.d__law_says
  exact fn_d (k := 0) D0 sc__law_says fun cdv A outer s H E hcd hr =>
    (ss_one (ss_ret (se_and (se_is rfl W.b_isinstance (by decide +kernel) rfl W.b_bool (by decide +kernel) (sb_var (pv 0))) (se_one (se_cmp (od_eq (hu_r hr)) (sb_var (pv 0)) (sb_var (pv 1)) (by first | rfl | exact nomark _))))))
theorem k__law_alike (W : Fx K mg base T a_Malformed a_NotThere a_OutOfRange a_Refused a_TooMuch a_CampError) : ∀ j : Nat, Kf P w K mg base T (1 + j) "_law_alike" 2 (m__law_alike j)
  | 0 => by obtain ⟨_, _, D0⟩ := W.d__law_alike; exact kf_zero D0
  | j + 1 => by
    have ih := k__law_alike W j
    obtain ⟨f, fd, D0⟩ := W.d__law_alike
    exact fn_d (k := 1 + j) (sf := f__law_alike (m__law_alike j)) D0 sc__law_alike fun cdv A outer s H E hcd hr =>
    (ss_cons (ss_if (PW.pt (sw_or (st_val (sb (se_is rfl W.b_isinstance (by decide +kernel) rfl W.b_list (by decide +kernel) (sb_var (pv 1))))) (sw_or1 (st_val (sb (se_is rfl W.b_isinstance (by decide +kernel) rfl W.b_tuple (by decide +kernel) (sb_var (pv 1))))))))
    (ss_cons (ss_if (PW.pt (sw_or (st_cmp (od_ne (hu_r hr)) (sb (se_is rfl W.b_isinstance (by decide +kernel) rfl W.b_list (by decide +kernel) (sb_var (pv 0)))) (sb (se_is rfl W.b_isinstance (by decide +kernel) rfl W.b_list (by decide +kernel) (sb_var (pv 1)))) (by first | rfl | exact nomark _)) (sw_or1 (st_cmp (od_ne (hu_r hr)) (sb (se_is rfl W.b_isinstance (by decide +kernel) rfl W.b_tuple (by decide +kernel) (sb_var (pv 0)))) (sb (se_is rfl W.b_isinstance (by decide +kernel) rfl W.b_tuple (by decide +kernel) (sb_var (pv 1)))) (by first | rfl | exact nomark _)))))
    (ss_one (ss_ret se_bl))
    ss_nil)
    (ss_one (ss_ret (se_and (se_cmp (od_eq (hu_r hr)) (sb (se_callB cd_len rfl W.b_len (by decide +kernel) (lb_cons (sb_var (pv 0)) lb_nil))) (sb (se_callB cd_len rfl W.b_len (by decide +kernel) (lb_cons (sb_var (pv 1)) lb_nil))) (by first | rfl | exact nomark _)) (se_one (se_cmp (od_eq (hu_r hr)) (sb (se_of (so_lc rfl sc__law_alike.nd (own := [("k", 2)]) (si_r1 rfl W.b_range (sb (se_callB cd_len rfl W.b_len (by decide +kernel) (lb_cons (sb_var (pv 1)) lb_nil)))) (blkOk_by (N := ["found", "due", "k"]) (sc := defScope st__law_alike) (by decide +kernel)) (by decide) (fun _ _ _ _ _ => (sg_name (pg_name (i := 2) sc__law_alike.nd rfl (by first | exact Or.inl rfl | exact Or.inr rfl)))) (fun _ _ _ _ _ => (pts_t1 (st_not (st_val (sb (se_callD (ih.up (by omega)) hr takesN0 (sa_cons (se_ix (sb_var (pv 0)) (sb_var (pv 2))) (sa_cons (se_ix (sb_var (pv 1)) (sb_var (pv 2))) sa_nil)))))))) (fun _ _ _ _ _ => (se_var (pv 2)))))) (sb (se_of (so_lst sl_nil))) (by first | rfl | exact nomark _)))))))
    ss_nil)
    (ss_cons (ss_if (st_cmp od_is (sb_var (pv 1)) (sb se_non) (by first | rfl | exact nomark _))
    (ss_one (ss_ret (se_cmp od_is (sb_var (pv 0)) (sb se_non) (by first | rfl | exact nomark _))))
    ss_nil)
    (ss_cons (ss_if (PW.pt (sw_or (st_val (sb (se_is rfl W.b_isinstance (by decide +kernel) rfl W.b_bool (by decide +kernel) (sb_var (pv 1))))) (sw_or1 (st_val (sb (se_is rfl W.b_isinstance (by decide +kernel) rfl W.b_bool (by decide +kernel) (sb_var (pv 0))))))))
    (ss_one (ss_ret (se_and (se_is rfl W.b_isinstance (by decide +kernel) rfl W.b_bool (by decide +kernel) (sb_var (pv 0))) (se_and (se_is rfl W.b_isinstance (by decide +kernel) rfl W.b_bool (by decide +kernel) (sb_var (pv 1))) (se_one (se_cmp (od_eq (hu_r hr)) (sb_var (pv 0)) (sb_var (pv 1)) (by first | rfl | exact nomark _)))))))
    ss_nil)
    (ss_cons (ss_if (st_val (sb (se_is rfl W.b_isinstance (by decide +kernel) rfl W.b_int (by decide +kernel) (sb_var (pv 1)))))
    (ss_one (ss_ret (se_and (se_is rfl W.b_isinstance (by decide +kernel) rfl W.b_int (by decide +kernel) (sb_var (pv 0))) (se_one (se_cmp (od_eq (hu_r hr)) (sb_var (pv 0)) (sb_var (pv 1)) (by first | rfl | exact nomark _))))))
    ss_nil)
    (ss_one (ss_ret (se_and (se_is rfl W.b_isinstance (by decide +kernel) rfl W.b_str (by decide +kernel) (sb_var (pv 0))) (se_one (se_cmp (od_eq (hu_r hr)) (sb_var (pv 0)) (sb_var (pv 1)) (by first | rfl | exact nomark _))))))))))
theorem k__law_word (W : Fx K mg base T a_Malformed a_NotThere a_OutOfRange a_Refused a_TooMuch a_CampError) : KW P w K mg base T 1 "_law_word" (fun C word => (C = a_OutOfRange ∧ word = "range") ∨ (C = a_Refused ∧ word = "refused") ∨ (C = a_TooMuch ∧ word = "much")) := by
  obtain ⟨f, fd, D0⟩ := W.d__law_word
  refine kw_of (k := 0) (n := "error") D0 sc__law_word (by decide) fun cdv A outer s H E p C word hcd hR hot hr hz hv => ?_
  have hc : L2H.HotC (cxW P w K mg base ["error", "kinds", "one"] "_law_word" st__law_word f cdv A outer s H E p) := ⟨p, hot, List.mem_cons_self⟩
  rcases hR with ⟨rfl, rfl⟩ | ⟨rfl, rfl⟩ | ⟨rfl, rfl⟩
  · refine ⟨[true, false, false, false, false], f__law_word, pss_cons (ps_kinds (pe_isW W.xc_OutOfRange hz hv List.mem_cons_self (pv 0) W.xk_OutOfRange_OutOfRange W.xg_OutOfRange rfl W.b_isinstance rfl (by decide) (by decide +kernel)) (pe_isW W.xc_OutOfRange hz hv List.mem_cons_self (pv 0) W.xk_OutOfRange_Refused W.xg_Refused rfl W.b_isinstance rfl (by decide) (by decide +kernel)) (pe_isW W.xc_OutOfRange hz hv List.mem_cons_self (pv 0) W.xk_OutOfRange_Malformed W.xg_Malformed rfl W.b_isinstance rfl (by decide) (by decide +kernel)) (pe_isW W.xc_OutOfRange hz hv List.mem_cons_self (pv 0) W.xk_OutOfRange_NotThere W.xg_NotThere rfl W.b_isinstance rfl (by decide) (by decide +kernel)) (pe_isW W.xc_OutOfRange hz hv List.mem_cons_self (pv 0) W.xk_OutOfRange_TooMuch W.xg_TooMuch rfl W.b_isinstance rfl (by decide) (by decide +kernel)) (pg_name (i := 1) sc__law_word.nd rfl (by first | exact Or.inl rfl | exact Or.inr rfl))) (ss_cons (ss_if (st_cmp (od_ne (hu_h hr)) (sb (se_callB cd_len rfl W.b_len (by decide +kernel) (lb_cons (sb (se_of (so_lcH hc sc__law_word.nd (own := [("one", 2)]) (se_var (pv 1)) (blkOk_by (N := ["error", "kinds", "one"]) (sc := defScope st__law_word) (by decide +kernel)) (by decide) (fun _ _ _ _ _ => (sg_name (pg_name (i := 2) sc__law_word.nd rfl (by first | exact Or.inl rfl | exact Or.inr rfl)))) (fun _ _ _ _ _ => (pts_t1 (st_val (sb_var (pv 2))))) (fun _ _ _ _ _ => (se_var (pv 2)))))) lb_nil))) (sb se_int) (by first | rfl | exact nomark _))
    (ss_one (ss_ret se_str))
    ss_nil)
    (ss_one (ss_ret (se_ix (sb (se_of (so_lst (sl_cons se_str (sl_cons se_str (sl_cons se_str (sl_cons se_str (sl_cons se_str sl_nil)))))))) (sb (se_index (hu_h hr) (sb_var (pv 1)) (sb se_bl))))))), fun wd => rfl⟩
  · refine ⟨[false, true, false, false, false], f__law_word, pss_cons (ps_kinds (pe_isW W.xc_Refused hz hv List.mem_cons_self (pv 0) W.xk_Refused_OutOfRange W.xg_OutOfRange rfl W.b_isinstance rfl (by decide) (by decide +kernel)) (pe_isW W.xc_Refused hz hv List.mem_cons_self (pv 0) W.xk_Refused_Refused W.xg_Refused rfl W.b_isinstance rfl (by decide) (by decide +kernel)) (pe_isW W.xc_Refused hz hv List.mem_cons_self (pv 0) W.xk_Refused_Malformed W.xg_Malformed rfl W.b_isinstance rfl (by decide) (by decide +kernel)) (pe_isW W.xc_Refused hz hv List.mem_cons_self (pv 0) W.xk_Refused_NotThere W.xg_NotThere rfl W.b_isinstance rfl (by decide) (by decide +kernel)) (pe_isW W.xc_Refused hz hv List.mem_cons_self (pv 0) W.xk_Refused_TooMuch W.xg_TooMuch rfl W.b_isinstance rfl (by decide) (by decide +kernel)) (pg_name (i := 1) sc__law_word.nd rfl (by first | exact Or.inl rfl | exact Or.inr rfl))) (ss_cons (ss_if (st_cmp (od_ne (hu_h hr)) (sb (se_callB cd_len rfl W.b_len (by decide +kernel) (lb_cons (sb (se_of (so_lcH hc sc__law_word.nd (own := [("one", 2)]) (se_var (pv 1)) (blkOk_by (N := ["error", "kinds", "one"]) (sc := defScope st__law_word) (by decide +kernel)) (by decide) (fun _ _ _ _ _ => (sg_name (pg_name (i := 2) sc__law_word.nd rfl (by first | exact Or.inl rfl | exact Or.inr rfl)))) (fun _ _ _ _ _ => (pts_t1 (st_val (sb_var (pv 2))))) (fun _ _ _ _ _ => (se_var (pv 2)))))) lb_nil))) (sb se_int) (by first | rfl | exact nomark _))
    (ss_one (ss_ret se_str))
    ss_nil)
    (ss_one (ss_ret (se_ix (sb (se_of (so_lst (sl_cons se_str (sl_cons se_str (sl_cons se_str (sl_cons se_str (sl_cons se_str sl_nil)))))))) (sb (se_index (hu_h hr) (sb_var (pv 1)) (sb se_bl))))))), fun wd => rfl⟩
  · refine ⟨[false, false, false, false, true], f__law_word, pss_cons (ps_kinds (pe_isW W.xc_TooMuch hz hv List.mem_cons_self (pv 0) W.xk_TooMuch_OutOfRange W.xg_OutOfRange rfl W.b_isinstance rfl (by decide) (by decide +kernel)) (pe_isW W.xc_TooMuch hz hv List.mem_cons_self (pv 0) W.xk_TooMuch_Refused W.xg_Refused rfl W.b_isinstance rfl (by decide) (by decide +kernel)) (pe_isW W.xc_TooMuch hz hv List.mem_cons_self (pv 0) W.xk_TooMuch_Malformed W.xg_Malformed rfl W.b_isinstance rfl (by decide) (by decide +kernel)) (pe_isW W.xc_TooMuch hz hv List.mem_cons_self (pv 0) W.xk_TooMuch_NotThere W.xg_NotThere rfl W.b_isinstance rfl (by decide) (by decide +kernel)) (pe_isW W.xc_TooMuch hz hv List.mem_cons_self (pv 0) W.xk_TooMuch_TooMuch W.xg_TooMuch rfl W.b_isinstance rfl (by decide) (by decide +kernel)) (pg_name (i := 1) sc__law_word.nd rfl (by first | exact Or.inl rfl | exact Or.inr rfl))) (ss_cons (ss_if (st_cmp (od_ne (hu_h hr)) (sb (se_callB cd_len rfl W.b_len (by decide +kernel) (lb_cons (sb (se_of (so_lcH hc sc__law_word.nd (own := [("one", 2)]) (se_var (pv 1)) (blkOk_by (N := ["error", "kinds", "one"]) (sc := defScope st__law_word) (by decide +kernel)) (by decide) (fun _ _ _ _ _ => (sg_name (pg_name (i := 2) sc__law_word.nd rfl (by first | exact Or.inl rfl | exact Or.inr rfl)))) (fun _ _ _ _ _ => (pts_t1 (st_val (sb_var (pv 2))))) (fun _ _ _ _ _ => (se_var (pv 2)))))) lb_nil))) (sb se_int) (by first | rfl | exact nomark _))
    (ss_one (ss_ret se_str))
    ss_nil)
    (ss_one (ss_ret (se_ix (sb (se_of (so_lst (sl_cons se_str (sl_cons se_str (sl_cons se_str (sl_cons se_str (sl_cons se_str sl_nil)))))))) (sb (se_index (hu_h hr) (sb_var (pv 1)) (sb se_bl))))))), fun wd => rfl⟩
theorem k__law_gcd (W : Fx K mg base T a_Malformed a_NotThere a_OutOfRange a_Refused a_TooMuch a_CampError) : Kf P w K mg base T 1 "_law_gcd" 2 m__law_gcd := by
  obtain ⟨f, fd, D0⟩ := W.d__law_gcd
  exact fn_d (k := 0) D0 sc__law_gcd fun cdv A outer s H E hcd hr =>
    (ss_cons (ss_par (i := 0) (j := 1) rfl sc__law_gcd.nd rfl rfl (by decide) rfl rfl (sl_cons (se_callB cd_abs rfl W.b_abs (by decide +kernel) (lb_cons (sb_var (pv 0)) lb_nil)) (sl_cons (se_callB cd_abs rfl W.b_abs (by decide +kernel) (lb_cons (sb_var (pv 1)) lb_nil)) sl_nil)) (by first | rfl | with_unfolding_all rfl))
    (ss_cons (ss_while 3000 (passes_of rfl) (st_cmp od_gt (sb_var (pv 1)) (sb se_int) (by first | rfl | exact nomark _))
    (ss_one (ss_par (i := 0) (j := 1) rfl sc__law_gcd.nd rfl rfl (by decide) rfl rfl (sl_cons (se_var (pv 1)) (sl_cons (se_bin od_mod (sb (se_callTy cd_int rfl W.b_int (by decide +kernel) (lb_cons (sb_var (pv 0)) lb_nil))) (sb_var (pv 1))) sl_nil)) (by first | rfl | with_unfolding_all rfl))))
    (ss_one (ss_ret (se_var (pv 0))))))
theorem k__law_part (W : Fx K mg base T a_Malformed a_NotThere a_OutOfRange a_Refused a_TooMuch a_CampError) : Kf P w K mg base T 2 "_law_part" 2 m__law_part := by
  obtain ⟨f, fd, D0⟩ := W.d__law_part
  exact fn_d (k := 1) D0 sc__law_part fun cdv A outer s H E hcd hr =>
    (ss_cons (ss_set (i := 2) (se_callD ((k__law_gcd W).up (by omega)) hr (L2N.takes_of rfl rfl rfl rfl) (sa_cons (se_var (pv 0)) (sa_cons (se_var (pv 1)) sa_nil))) sc__law_part.nd rfl (by first | exact Or.inl rfl | exact Or.inr rfl))
    (ss_one (ss_ret (se_tup (sl_cons (se_bin od_fdiv (sb_var (pv 0)) (sb_var (pv 2))) (sl_cons (se_bin od_fdiv (sb_var (pv 1)) (sb_var (pv 2))) sl_nil))))))
theorem k__law_plus (W : Fx K mg base T a_Malformed a_NotThere a_OutOfRange a_Refused a_TooMuch a_CampError) : Kf P w K mg base T 3 "_law_plus" 2 m__law_plus := by
  obtain ⟨f, fd, D0⟩ := W.d__law_plus
  exact fn_d (k := 2) D0 sc__law_plus fun cdv A outer s H E hcd hr =>
    (ss_one (ss_ret (se_callD ((k__law_part W).up (by omega)) hr (L2N.takes_of rfl rfl rfl rfl) (sa_cons (se_bin od_add (sb (se_bin od_mul (sb (se_ix (sb_var (pv 0)) (sb se_int))) (sb (se_ix (sb_var (pv 1)) (sb se_int))))) (sb (se_bin od_mul (sb (se_ix (sb_var (pv 1)) (sb se_int))) (sb (se_ix (sb_var (pv 0)) (sb se_int)))))) (sa_cons (se_bin od_mul (sb (se_ix (sb_var (pv 0)) (sb se_int))) (sb (se_ix (sb_var (pv 1)) (sb se_int)))) sa_nil)))))
theorem k__law_minus (W : Fx K mg base T a_Malformed a_NotThere a_OutOfRange a_Refused a_TooMuch a_CampError) : Kf P w K mg base T 3 "_law_minus" 2 m__law_minus := by
  obtain ⟨f, fd, D0⟩ := W.d__law_minus
  exact fn_d (k := 2) D0 sc__law_minus fun cdv A outer s H E hcd hr =>
    (ss_one (ss_ret (se_callD ((k__law_part W).up (by omega)) hr (L2N.takes_of rfl rfl rfl rfl) (sa_cons (se_bin od_sub (sb (se_bin od_mul (sb (se_ix (sb_var (pv 0)) (sb se_int))) (sb (se_ix (sb_var (pv 1)) (sb se_int))))) (sb (se_bin od_mul (sb (se_ix (sb_var (pv 1)) (sb se_int))) (sb (se_ix (sb_var (pv 0)) (sb se_int)))))) (sa_cons (se_bin od_mul (sb (se_ix (sb_var (pv 0)) (sb se_int))) (sb (se_ix (sb_var (pv 1)) (sb se_int)))) sa_nil)))))
theorem k__law_times (W : Fx K mg base T a_Malformed a_NotThere a_OutOfRange a_Refused a_TooMuch a_CampError) : Kf P w K mg base T 3 "_law_times" 2 m__law_times := by
  obtain ⟨f, fd, D0⟩ := W.d__law_times
  exact fn_d (k := 2) D0 sc__law_times fun cdv A outer s H E hcd hr =>
    (ss_one (ss_ret (se_callD ((k__law_part W).up (by omega)) hr (L2N.takes_of rfl rfl rfl rfl) (sa_cons (se_bin od_mul (sb (se_ix (sb_var (pv 0)) (sb se_int))) (sb (se_ix (sb_var (pv 1)) (sb se_int)))) (sa_cons (se_bin od_mul (sb (se_ix (sb_var (pv 0)) (sb se_int))) (sb (se_ix (sb_var (pv 1)) (sb se_int)))) sa_nil)))))
theorem k__law_less (W : Fx K mg base T a_Malformed a_NotThere a_OutOfRange a_Refused a_TooMuch a_CampError) : Kf P w K mg base T 1 "_law_less" 2 m__law_less := by
  obtain ⟨f, fd, D0⟩ := W.d__law_less
  exact fn_d (k := 0) D0 sc__law_less fun cdv A outer s H E hcd hr =>
    (ss_one (ss_ret (se_cmp od_lt (sb (se_bin od_mul (sb (se_ix (sb_var (pv 0)) (sb se_int))) (sb (se_ix (sb_var (pv 1)) (sb se_int))))) (sb (se_bin od_mul (sb (se_ix (sb_var (pv 1)) (sb se_int))) (sb (se_ix (sb_var (pv 0)) (sb se_int))))) (by first | rfl | exact nomark _))))
theorem k__law_sum (W : Fx K mg base T a_Malformed a_NotThere a_OutOfRange a_Refused a_TooMuch a_CampError) : Kf P w K mg base T 4 "_law_sum" 1 m__law_sum := by
  obtain ⟨f, fd, D0⟩ := W.d__law_sum
  exact fn_d (k := 3) D0 sc__law_sum fun cdv A outer s H E hcd hr =>
    (ss_cons (ss_set (i := 1) (se_tup (sl_cons se_int (sl_cons se_int sl_nil))) sc__law_sum.nd rfl (by first | exact Or.inl rfl | exact Or.inr rfl))
    (ss_cons (ss_for (passes_of rfl) rfl (si_seq (se_var (pv 0))) (sg_name (pg_name (i := 2) sc__law_sum.nd rfl (by first | exact Or.inl rfl | exact Or.inr rfl)))
    (ss_one (ss_set (i := 1) (se_callD ((k__law_plus W).up (by omega)) hr (L2N.takes_of rfl rfl rfl rfl) (sa_cons (se_var (pv 1)) (sa_cons (se_var (pv 2)) sa_nil))) sc__law_sum.nd rfl (by first | exact Or.inl rfl | exact Or.inr rfl))) (by intro _; rfl))
    (ss_one (ss_ret (se_var (pv 1))))))
theorem k__law_told (W : Fx K mg base T a_Malformed a_NotThere a_OutOfRange a_Refused a_TooMuch a_CampError) : Kf P w K mg base T 7 "_law_told" 4 m__law_told := by
  obtain ⟨f, fd, D0⟩ := W.d__law_told
  exact fn_d (k := 6) D0 sc__law_told fun cdv A outer s H E hcd hr =>
    (ss_one (ss_tryW (i := 4) [("OutOfRange", "range"), ("Refused", "refused"), ("TooMuch", "much")] ((k__law_word W).up (by omega)) hr (tbl_cons ⟨_, W.xg_OutOfRange, W.xm_OutOfRange_CampError, (Or.inl ⟨rfl, rfl⟩)⟩ (tbl_cons ⟨_, W.xg_Refused, W.xm_Refused_CampError, (Or.inr (Or.inl ⟨rfl, rfl⟩))⟩ (tbl_cons ⟨_, W.xg_TooMuch, W.xm_TooMuch_CampError, (Or.inr (Or.inr ⟨rfl, rfl⟩))⟩ tbl_nil))) rfl rfl sc__law_told.nd rfl rfl ⟨rfl, by decide, Or.inl W.xg_CampError⟩ (L2N.takes_of rfl rfl rfl rfl) rfl (by decide) (by decide) (by decide)
    (fun W0 pn xe tk po => (ss_one (ss_ret (se_if (st_cmp (od_eq (hu_r hr)) (sb_var (pv 0)) (sb se_int) (by first | rfl | exact nomark _)) (se_callD ((k_best_tackle W).up (by omega)) hr tk (sa_cons (se_var (pv 1)) (sa_cons (se_var (pv 2)) (sa_cons (se_var (pv 3)) sa_nil)))) (se_callD ((k_fewest_rolls W).up (by omega)) hr tk (sa_cons (se_var (pv 1)) (sa_cons (se_var (pv 3)) sa_nil)))))))))
theorem k__law_lifts (W : Fx K mg base T a_Malformed a_NotThere a_OutOfRange a_Refused a_TooMuch a_CampError) : Kf P w K mg base T 5 "_law_lifts" 2 m__law_lifts := by
  obtain ⟨f, fd, D0⟩ := W.d__law_lifts
  exact fn_d (k := 4) D0 sc__law_lifts fun cdv A outer s H E hcd hr =>
    (ss_cons (ss_set (i := 2) (se_tup (sl_cons se_int (sl_cons se_int sl_nil))) sc__law_lifts.nd rfl (by first | exact Or.inl rfl | exact Or.inr rfl))
    (ss_cons (ss_for (passes_of rfl) rfl (si_seq (se_var (pv 0))) (sg_name (pg_name (i := 3) sc__law_lifts.nd rfl (by first | exact Or.inl rfl | exact Or.inr rfl)))
    (ss_cons (ss_parO (i := 4) (j := 5) rfl sc__law_lifts.nd rfl rfl (by decide) rfl rfl (so_lst (sl_cons (se_tup (sl_cons se_int (sl_cons se_int sl_nil))) sl_nil)) (se_tup (sl_cons se_int (sl_cons se_int sl_nil))) (by first | rfl | with_unfolding_all rfl))
    (ss_cons (ss_for (passes_of rfl) rfl (si_r1 rfl W.b_range (sb_var (pv 3))) (sg_name (pg_name (i := 6) sc__law_lifts.nd rfl (by first | exact Or.inl rfl | exact Or.inr rfl)))
    (ss_cons (ss_set (i := 5) (se_callD ((k__law_times W).up (by omega)) hr (L2N.takes_of rfl rfl rfl rfl) (sa_cons (se_var (pv 5)) (sa_cons (se_var (pv 1)) sa_nil))) sc__law_lifts.nd rfl (by first | exact Or.inl rfl | exact Or.inr rfl))
    (ss_one (ss_append (i := 4) (pv 4) (se_var (pv 5))))) (by intro _; rfl))
    (ss_fz 4 (ss_one (ss_set (i := 2) (se_callD ((k__law_times W).up (by omega)) hr (L2N.takes_of rfl rfl rfl rfl) (sa_cons (se_var (pv 2)) (sa_cons (se_callD ((k__law_sum W).up (by omega)) hr (L2N.takes_of rfl rfl rfl rfl) (sa_cons (se_var (pv 4)) sa_nil)) sa_nil))) sc__law_lifts.nd rfl (by first | exact Or.inl rfl | exact Or.inr rfl)))))) (by intro _; rfl))
    (ss_one (ss_ret (se_var (pv 2))))))
theorem k__law_tackles (W : Fx K mg base T a_Malformed a_NotThere a_OutOfRange a_Refused a_TooMuch a_CampError) : Kf P w K mg base T 1 "_law_tackles" 2 m__law_tackles := by
  obtain ⟨f, fd, D0⟩ := W.d__law_tackles
  exact fn_d (k := 0) D0 sc__law_tackles fun cdv A outer s H E hcd hr =>
    (ss_cons (ss_par (i := 2) (j := 3) rfl sc__law_tackles.nd rfl rfl (by decide) rfl rfl (sl_cons (se_of (so_lst sl_nil)) (sl_cons (se_of (so_lst (sl_cons (se_tup (sl_cons (se_tup sl_nil) (sl_cons (se_var (pv 0)) sl_nil))) sl_nil))) sl_nil)) (by first | rfl | with_unfolding_all rfl))
    (ss_cons (ss_while 16 (passes_of rfl) (st_cmp (od_ne (hu_r hr)) (sb_var (pv 3)) (sb (se_of (so_lst sl_nil))) (by first | rfl | exact nomark _))
    (ss_cons (ss_set (i := 2) (se_bin od_add (sb_var (pv 2)) (sb (se_of (so_lc rfl sc__law_tackles.nd (own := [("row", 5), ("left", 6)]) (si_seq (se_var (pv 3))) (blkOk_by (N := ["rolls", "most", "found", "edge", "later", "row", "left", "one"]) (sc := defScope st__law_tackles) (by decide +kernel)) (by decide) (fun _ _ _ _ _ => (sg_tup rfl (sgs_cons (sg_name (pg_name (i := 5) sc__law_tackles.nd rfl (by first | exact Or.inl rfl | exact Or.inr rfl))) (sgs_cons (sg_name (pg_name (i := 6) sc__law_tackles.nd rfl (by first | exact Or.inl rfl | exact Or.inr rfl))) sgs_nil)))) (fun _ _ _ _ _ => (pts_t1 (st_cmp (od_eq (hu_r hr)) (sb_var (pv 6)) (sb se_int) (by first | rfl | exact nomark _)))) (fun _ _ _ _ _ => (se_var (pv 5))))))) sc__law_tackles.nd rfl (by first | exact Or.inl rfl | exact Or.inr rfl))
    (ss_cons (ss_set (i := 4) (se_of (so_lst sl_nil)) sc__law_tackles.nd rfl (by first | exact Or.inl rfl | exact Or.inr rfl))
    (ss_cons (ss_for (passes_of rfl) rfl (si_seq (se_var (pv 3))) (sg_tup rfl (sgs_cons (sg_name (pg_name (i := 5) sc__law_tackles.nd rfl (by first | exact Or.inl rfl | exact Or.inr rfl))) (sgs_cons (sg_name (pg_name (i := 6) sc__law_tackles.nd rfl (by first | exact Or.inl rfl | exact Or.inr rfl))) sgs_nil)))
    (ss_one (ss_if (st_cmp od_lt (sb (se_callB cd_len rfl W.b_len (by decide +kernel) (lb_cons (sb_var (pv 5)) lb_nil))) (sb_var (pv 1)) (by first | rfl | exact nomark _))
    (ss_one (ss_set (i := 4) (se_bin od_add (sb_var (pv 4)) (sb (se_of (so_lc rfl sc__law_tackles.nd (own := [("one", 7)]) (si_r2 rfl W.b_range (sb se_int) (sb (se_bin od_add (sb (se_callB (cd_min rfl (hu_r hr)) rfl W.b_min (by decide +kernel) (lb_cons (sb_var (pv 6)) (lb_cons (sb se_int) lb_nil)))) (sb se_int)))) (blkOk_by (N := ["rolls", "most", "found", "edge", "later", "row", "left", "one"]) (sc := defScope st__law_tackles) (by decide +kernel)) (by decide) (fun _ _ _ _ _ => (sg_name (pg_name (i := 7) sc__law_tackles.nd rfl (by first | exact Or.inl rfl | exact Or.inr rfl)))) (fun _ _ _ _ _ => pts_t0) (fun _ _ _ _ _ => (se_tup (sl_cons (se_bin od_add (sb_var (pv 5)) (sb (se_tup (sl_cons (se_var (pv 7)) sl_nil)))) (sl_cons (se_bin od_sub (sb_var (pv 6)) (sb_var (pv 7))) sl_nil)))))))) sc__law_tackles.nd rfl (by first | exact Or.inl rfl | exact Or.inr rfl)))
    ss_nil)) (by intro _; rfl))
    (ss_one (ss_set (i := 3) (se_var (pv 4)) sc__law_tackles.nd rfl (by first | exact Or.inl rfl | exact Or.inr rfl)))))))
    (ss_one (ss_ret (se_var (pv 2))))))
theorem k_law (W : Fx K mg base T a_Malformed a_NotThere a_OutOfRange a_Refused a_TooMuch a_CampError) {f : Addr} {fd : FuncData} (D0 : Df K mg "law" st_law ["script"] f fd) : FnOk P w K mg base (L2N.CX P w) 8 f fd ["script"] (spLaw ⟨K, mg, T⟩ (LawTrue 1 21 f_law0 f_law)) := by
  exact fn_law (k := 7) D0 sc_law (by decide) (by decide) (by decide) rfl (fun cdv A outer s H E hcd hr => ps_set (i := 1) sc_law.nd rfl (by first | exact Or.inl rfl | exact Or.inr rfl) (so_callD ((k__law_draws W).up (by omega)) hr (L2N.takes_of rfl rfl rfl rfl) (sa_sl (pv 0) sa_nil)))
    (fun cdv A outer s H E hcd hr =>
    (ss_cons (ss_set (i := 2) (se_if (st_cmp (od_eq (hu_r hr)) (sb (se_callD ((k__law_take W).up (by omega)) hr (L2N.takes_of rfl rfl rfl rfl) (sa_sl (pv 1) (sa_cons se_int sa_nil)))) (sb se_int) (by first | rfl | exact nomark _)) (se_callD ((k__law_part W).up (by omega)) hr (L2N.takes_of rfl rfl rfl rfl) (sa_cons (se_bin od_add (sb se_int) (sb (se_callD ((k__law_take W).up (by omega)) hr (L2N.takes_of rfl rfl rfl rfl) (sa_sl (pv 1) (sa_cons se_int sa_nil))))) (sa_cons se_int sa_nil))) (se_callD ((k__law_part W).up (by omega)) hr (L2N.takes_of rfl rfl rfl rfl) (sa_cons (se_bin od_add (sb se_int) (sb (se_callD ((k__law_take W).up (by omega)) hr (L2N.takes_of rfl rfl rfl rfl) (sa_sl (pv 1) (sa_cons se_int sa_nil))))) (sa_cons se_int sa_nil)))) sc_law.nd rfl (by first | exact Or.inl rfl | exact Or.inr rfl))
    (ss_cons (ss_set (i := 3) (se_callTy cd_tuple rfl W.b_tuple (by decide +kernel) (lb_cons (sb (se_of (so_lc rfl sc_law.nd (own := [("k", 19)]) (si_r1 rfl W.b_range (sb (se_bin od_add (sb se_int) (sb (se_callD ((k__law_take W).up (by omega)) hr (L2N.takes_of rfl rfl rfl rfl) (sa_sl (pv 1) (sa_cons se_int sa_nil))))))) (blkOk_by (N := ["script", "draws", "grip", "tackle", "whole", "rolls", "single", "roll", "most", "best", "one", "told", "more", "wider", "load", "lifted", "many", "words", "odd", "k", "value"]) (sc := defScope st_law) (by decide +kernel)) (by decide) (fun _ _ _ _ _ => (sg_name (pg_name (i := 19) sc_law.nd rfl (by first | exact Or.inl rfl | exact Or.inr rfl)))) (fun _ _ _ _ _ => pts_t0) (fun _ _ _ _ _ => (se_bin od_add (sb se_int) (sb (se_callD ((k__law_take W).up (by omega)) hr takesN0 (sa_sl (pv 1) (sa_cons (se_ix (sb (se_of (so_lst (sl_cons se_int (sl_cons se_int sl_nil))))) (sb (se_callD ((k__law_take W).up (by omega)) hr takesN0 (sa_sl (pv 1) (sa_cons se_int sa_nil))))) sa_nil))))))))) lb_nil)) sc_law.nd rfl (by first | exact Or.inl rfl | exact Or.inr rfl))
    (ss_cons (ss_if (PW.pt (sw_or (st_not (st_val (sb (se_callD ((k__law_says W).up (by omega)) hr (L2N.takes_of rfl rfl rfl rfl) (sa_cons (se_callD ((k_is_tackle W).up (by omega)) hr (L2N.takes_of rfl rfl rfl rfl) (sa_cons (se_var (pv 3)) sa_nil)) (sa_cons se_bl sa_nil)))))) (sw_or1 (st_not (st_val (sb (se_callD ((k__law_alike W 4).up (by omega)) hr (L2N.takes_of rfl rfl rfl rfl) (sa_cons (se_callD ((k_lifts W).up (by omega)) hr (L2N.takes_of rfl rfl rfl rfl) (sa_cons (se_var (pv 3)) (sa_cons (se_var (pv 2)) sa_nil))) (sa_cons (se_callD ((k__law_lifts W).up (by omega)) hr (L2N.takes_of rfl rfl rfl rfl) (sa_cons (se_var (pv 3)) (sa_cons (se_var (pv 2)) sa_nil))) sa_nil)))))))))
    (ss_one (ss_ret se_bl))
    ss_nil)
    (ss_cons (ss_set (i := 4) se_int sc_law.nd rfl (by first | exact Or.inl rfl | exact Or.inr rfl))
    (ss_cons (ss_for (passes_of rfl) rfl (si_seq (se_var (pv 3))) (sg_name (pg_name (i := 5) sc_law.nd rfl (by first | exact Or.inl rfl | exact Or.inr rfl)))
    (ss_one (ss_set (i := 4) (se_bin od_mul (sb_var (pv 4)) (sb (se_bin od_add (sb_var (pv 5)) (sb se_int)))) sc_law.nd rfl (by first | exact Or.inl rfl | exact Or.inr rfl))) (by intro _; rfl))
    (ss_cons (ss_if (st_cmp (od_ne (hu_r hr)) (sb (se_callD ((k_lifts W).up (by omega)) hr (L2N.takes_of rfl rfl rfl rfl) (sa_cons (se_var (pv 3)) (sa_cons (se_tup (sl_cons se_int (sl_cons se_int sl_nil))) sa_nil)))) (sb (se_tup (sl_cons (se_var (pv 4)) (sl_cons se_int sl_nil)))) (by first | rfl | exact nomark _))
    (ss_one (ss_ret se_bl))
    ss_nil)
    (ss_cons (ss_set (i := 6) (se_tup (sl_cons se_int (sl_cons se_int sl_nil))) sc_law.nd rfl (by first | exact Or.inl rfl | exact Or.inr rfl))
    (ss_cons (ss_for (passes_of rfl) rfl (si_r1 rfl W.b_range (sb (se_callB (cd_sumA rfl) rfl W.b_sum (by decide +kernel) (lb_cons (sb_var (pv 3)) lb_nil)))) (sg_name (pg_name (i := 7) sc_law.nd rfl (by first | exact Or.inl rfl | exact Or.inr rfl)))
    (ss_one (ss_set (i := 6) (se_callD ((k__law_times W).up (by omega)) hr (L2N.takes_of rfl rfl rfl rfl) (sa_cons (se_var (pv 6)) (sa_cons (se_callD ((k__law_plus W).up (by omega)) hr (L2N.takes_of rfl rfl rfl rfl) (sa_cons (se_tup (sl_cons se_int (sl_cons se_int sl_nil))) (sa_cons (se_var (pv 2)) sa_nil))) sa_nil))) sc_law.nd rfl (by first | exact Or.inl rfl | exact Or.inr rfl))) (by intro _; rfl))
    (ss_cons (ss_if (PW.pt (sw_or (st_val (sb (se_callD ((k__law_less W).up (by omega)) hr (L2N.takes_of rfl rfl rfl rfl) (sa_cons (se_var (pv 6)) (sa_cons (se_callD ((k_lifts W).up (by omega)) hr (L2N.takes_of rfl rfl rfl rfl) (sa_cons (se_var (pv 3)) (sa_cons (se_var (pv 2)) sa_nil))) sa_nil))))) (sw_or1 (st_cmp (od_ne (hu_r hr)) (sb (se_callD ((k_lifts W).up (by omega)) hr (L2N.takes_of rfl rfl rfl rfl) (sa_cons (se_bin od_mul (sb (se_tup (sl_cons se_int sl_nil))) (sb (se_callB (cd_min rfl (hu_r hr)) rfl W.b_min (by decide +kernel) (lb_cons (sb se_int) (lb_cons (sb (se_callB (cd_sumA rfl) rfl W.b_sum (by decide +kernel) (lb_cons (sb_var (pv 3)) lb_nil))) lb_nil))))) (sa_cons (se_var (pv 2)) sa_nil)))) (sb (se_callD ((k__law_lifts W).up (by omega)) hr (L2N.takes_of rfl rfl rfl rfl) (sa_cons (se_bin od_mul (sb (se_tup (sl_cons se_int sl_nil))) (sb (se_callB (cd_min rfl (hu_r hr)) rfl W.b_min (by decide +kernel) (lb_cons (sb se_int) (lb_cons (sb (se_callB (cd_sumA rfl) rfl W.b_sum (by decide +kernel) (lb_cons (sb_var (pv 3)) lb_nil))) lb_nil))))) (sa_cons (se_var (pv 2)) sa_nil)))) (by first | rfl | exact nomark _)))))
    (ss_one (ss_ret se_bl))
    ss_nil)
    (ss_cons (ss_par (i := 5) (j := 8) rfl sc_law.nd rfl rfl (by decide) rfl rfl (sl_cons (se_bin od_add (sb se_int) (sb (se_callD ((k__law_take W).up (by omega)) hr (L2N.takes_of rfl rfl rfl rfl) (sa_sl (pv 1) (sa_cons se_int sa_nil))))) (sl_cons (se_bin od_add (sb se_int) (sb (se_callD ((k__law_take W).up (by omega)) hr (L2N.takes_of rfl rfl rfl rfl) (sa_sl (pv 1) (sa_cons se_int sa_nil))))) sl_nil)) (by first | rfl | with_unfolding_all rfl))
    (ss_cons (ss_set (i := 9) se_non sc_law.nd rfl (by first | exact Or.inl rfl | exact Or.inr rfl))
    (ss_cons (ss_for (passes_of rfl) rfl (si_seq (se_callD ((k__law_tackles W).up (by omega)) hr (L2N.takes_of rfl rfl rfl rfl) (sa_cons (se_var (pv 5)) (sa_cons (se_var (pv 8)) sa_nil)))) (sg_name (pg_name (i := 10) sc_law.nd rfl (by first | exact Or.inl rfl | exact Or.inr rfl)))
    (ss_cons (ss_set (i := 15) (se_callD ((k__law_lifts W).up (by omega)) hr (L2N.takes_of rfl rfl rfl rfl) (sa_cons (se_var (pv 10)) (sa_cons (se_var (pv 2)) sa_nil))) sc_law.nd rfl (by first | exact Or.inl rfl | exact Or.inr rfl))
    (ss_one (ss_if (PW.pt (sw_or (st_cmp od_is (sb_var (pv 9)) (sb se_non) (by first | rfl | exact nomark _)) (sw_or (st_val (sb (se_callD ((k__law_less W).up (by omega)) hr (L2N.takes_of rfl rfl rfl rfl) (sa_cons (se_ix (sb_var (pv 9)) (sb se_int)) (sa_cons (se_var (pv 15)) sa_nil))))) (sw_or1 (PW.pt (sw_and (st_cmp (od_eq (hu_r hr)) (sb (se_ix (sb_var (pv 9)) (sb se_int))) (sb_var (pv 15)) (by first | rfl | exact nomark _)) (sw_and1 (st_cmp (od_ltT (hu_r hr)) (sb (se_tup (sl_cons (se_callB cd_len rfl W.b_len (by decide +kernel) (lb_cons (sb_var (pv 10)) lb_nil)) (sl_cons (se_var (pv 10)) sl_nil)))) (sb (se_tup (sl_cons (se_callB cd_len rfl W.b_len (by decide +kernel) (lb_cons (sb (se_ix (sb_var (pv 9)) (sb se_int))) lb_nil)) (sl_cons (se_ix (sb_var (pv 9)) (sb se_int)) sl_nil)))) (by first | rfl | exact nomark _)))))))))
    (ss_one (ss_set (i := 9) (se_tup (sl_cons (se_var (pv 15)) (sl_cons (se_var (pv 10)) sl_nil))) sc_law.nd rfl (by first | exact Or.inl rfl | exact Or.inr rfl)))
    ss_nil))) (by intro _; rfl))
    (ss_cons (ss_set (i := 11) (se_callD ((k__law_told W).up (by omega)) hr (L2N.takes_of rfl rfl rfl rfl) (sa_cons se_int (sa_cons (se_var (pv 5)) (sa_cons (se_var (pv 8)) (sa_cons (se_var (pv 2)) sa_nil))))) sc_law.nd rfl (by first | exact Or.inl rfl | exact Or.inr rfl))
    (ss_cons (ss_if (st_not (st_val (sb (se_callD ((k__law_alike W 4).up (by omega)) hr (L2N.takes_of rfl rfl rfl rfl) (sa_cons (se_var (pv 11)) (sa_cons (se_ix (sb_var (pv 9)) (sb se_int)) sa_nil))))))
    (ss_one (ss_ret se_bl))
    ss_nil)
    (ss_cons (ss_set (i := 12) (se_callD ((k__law_told W).up (by omega)) hr (L2N.takes_of rfl rfl rfl rfl) (sa_cons se_int (sa_cons (se_bin od_add (sb_var (pv 5)) (sb se_int)) (sa_cons (se_var (pv 8)) (sa_cons (se_var (pv 2)) sa_nil))))) sc_law.nd rfl (by first | exact Or.inl rfl | exact Or.inr rfl))
    (ss_cons (ss_set (i := 13) (se_callD ((k__law_plus W).up (by omega)) hr (L2N.takes_of rfl rfl rfl rfl) (sa_cons (se_var (pv 2)) (sa_cons (se_callD ((k__law_times W).up (by omega)) hr (L2N.takes_of rfl rfl rfl rfl) (sa_cons (se_callD ((k__law_minus W).up (by omega)) hr (L2N.takes_of rfl rfl rfl rfl) (sa_cons (se_tup (sl_cons se_int (sl_cons se_int sl_nil))) (sa_cons (se_var (pv 2)) sa_nil))) (sa_cons (se_callD ((k__law_part W).up (by omega)) hr (L2N.takes_of rfl rfl rfl rfl) (sa_cons (se_callD ((k__law_take W).up (by omega)) hr (L2N.takes_of rfl rfl rfl rfl) (sa_sl (pv 1) (sa_cons se_int sa_nil))) (sa_cons se_int sa_nil))) sa_nil))) sa_nil))) sc_law.nd rfl (by first | exact Or.inl rfl | exact Or.inr rfl))
    (ss_cons (ss_if (PW.pt (sw_or (PW.pt (sw_and (st_cmp (od_ne (hu_r hr)) (sb_var (pv 12)) (sb se_str) (by first | rfl | exact nomark _)) (sw_and1 (st_val (sb (se_callD ((k__law_less W).up (by omega)) hr (L2N.takes_of rfl rfl rfl rfl) (sa_cons (se_callD ((k__law_lifts W).up (by omega)) hr (L2N.takes_of rfl rfl rfl rfl) (sa_cons (se_var (pv 12)) (sa_cons (se_var (pv 2)) sa_nil))) (sa_cons (se_ix (sb_var (pv 9)) (sb se_int)) sa_nil)))))))) (sw_or1 (st_val (sb (se_callD ((k__law_less W).up (by omega)) hr (L2N.takes_of rfl rfl rfl rfl) (sa_cons (se_callD ((k_lifts W).up (by omega)) hr (L2N.takes_of rfl rfl rfl rfl) (sa_cons (se_callD ((k_best_tackle W).up (by omega)) hr (L2N.takes_of rfl rfl rfl rfl) (sa_cons (se_var (pv 5)) (sa_cons (se_var (pv 8)) (sa_cons (se_var (pv 13)) sa_nil)))) (sa_cons (se_var (pv 13)) sa_nil))) (sa_cons (se_ix (sb_var (pv 9)) (sb se_int)) sa_nil))))))))
    (ss_one (ss_ret se_bl))
    ss_nil)
    (ss_cons (ss_if (PW.pt (sw_and (st_cmp od_le (sb_var (pv 5)) (sb_var (pv 8)) (by first | rfl | exact nomark _)) (sw_and (st_cmp (od_ne (hu_r hr)) (sb_var (pv 11)) (sb (se_bin od_mul (sb (se_tup (sl_cons se_int sl_nil))) (sb_var (pv 5)))) (by first | rfl | exact nomark _)) (sw_and1 (st_cmp (od_ne (hu_r hr)) (sb (se_callD ((k__law_lifts W).up (by omega)) hr (L2N.takes_of rfl rfl rfl rfl) (sa_cons (se_bin od_mul (sb (se_tup (sl_cons se_int sl_nil))) (sb_var (pv 5))) (sa_cons (se_var (pv 2)) sa_nil)))) (sb (se_ix (sb_var (pv 9)) (sb se_int))) (by first | rfl | exact nomark _))))))
    (ss_one (ss_ret se_bl))
    ss_nil)
    (ss_cons (ss_par3 (i := 14) (j := 15) (l := 16) rfl sc_law.nd rfl rfl rfl (by decide) (by decide) (by decide) rfl rfl rfl (sl_cons (se_callD ((k__law_part W).up (by omega)) hr (L2N.takes_of rfl rfl rfl rfl) (sa_cons (se_bin od_add (sb se_int) (sb (se_callD ((k__law_take W).up (by omega)) hr (L2N.takes_of rfl rfl rfl rfl) (sa_sl (pv 1) (sa_cons se_int sa_nil))))) (sa_cons (se_bin od_add (sb se_int) (sb (se_callD ((k__law_take W).up (by omega)) hr (L2N.takes_of rfl rfl rfl rfl) (sa_sl (pv 1) (sa_cons se_int sa_nil))))) sa_nil))) (sl_cons (se_tup (sl_cons se_int (sl_cons se_int sl_nil))) (sl_cons se_int sl_nil))) (by first | rfl | with_unfolding_all rfl))
    (ss_cons (ss_while 64 (passes_of rfl) (PW.pt (sw_and (st_val (sb (se_callD ((k__law_less W).up (by omega)) hr (L2N.takes_of rfl rfl rfl rfl) (sa_cons (se_var (pv 15)) (sa_cons (se_var (pv 14)) sa_nil))))) (sw_and1 (st_cmp od_lt (sb_var (pv 16)) (sb se_int) (by first | rfl | exact nomark _)))))
    (ss_one (ss_par (i := 15) (j := 16) rfl sc_law.nd rfl rfl (by decide) rfl rfl (sl_cons (se_callD ((k__law_times W).up (by omega)) hr (L2N.takes_of rfl rfl rfl rfl) (sa_cons (se_var (pv 15)) (sa_cons (se_callD ((k__law_plus W).up (by omega)) hr (L2N.takes_of rfl rfl rfl rfl) (sa_cons (se_tup (sl_cons se_int (sl_cons se_int sl_nil))) (sa_cons (se_var (pv 2)) sa_nil))) sa_nil))) (sl_cons (se_bin od_add (sb_var (pv 16)) (sb se_int)) sl_nil)) (by first | rfl | with_unfolding_all rfl))))
    (ss_cons (ss_if (st_not (st_val (sb (se_callD ((k__law_alike W 4).up (by omega)) hr (L2N.takes_of rfl rfl rfl rfl) (sa_cons (se_callD ((k__law_told W).up (by omega)) hr (L2N.takes_of rfl rfl rfl rfl) (sa_cons se_int (sa_cons (se_var (pv 14)) (sa_cons se_non (sa_cons (se_var (pv 2)) sa_nil))))) (sa_cons (se_if (st_cmp od_lt (sb_var (pv 16)) (sb se_int) (by first | rfl | exact nomark _)) (se_var (pv 16)) se_str) sa_nil))))))
    (ss_one (ss_ret se_bl))
    ss_nil)
    (ss_cons (ss_set (i := 17) (se_bin od_add (sb (se_of (so_lc rfl sc_law.nd (own := [("one", 10)]) (si_seq (se_of (so_lst (sl_cons se_int (sl_cons se_int sl_nil))))) (blkOk_by (N := ["script", "draws", "grip", "tackle", "whole", "rolls", "single", "roll", "most", "best", "one", "told", "more", "wider", "load", "lifted", "many", "words", "odd", "k", "value"]) (sc := defScope st_law) (by decide +kernel)) (by decide) (fun _ _ _ _ _ => (sg_name (pg_name (i := 10) sc_law.nd rfl (by first | exact Or.inl rfl | exact Or.inr rfl)))) (fun _ _ _ _ _ => pts_t0) (fun _ _ _ _ _ => (se_callD ((k__law_told W).up (by omega)) hr takesN0 (sa_cons se_int (sa_cons (se_var (pv 10)) (sa_cons se_int (sa_cons (se_var (pv 2)) sa_nil))))))))) (sb (se_of (so_lc rfl sc_law.nd (own := [("one", 10)]) (si_seq (se_of (so_lst (sl_cons se_int (sl_cons se_int sl_nil))))) (blkOk_by (N := ["script", "draws", "grip", "tackle", "whole", "rolls", "single", "roll", "most", "best", "one", "told", "more", "wider", "load", "lifted", "many", "words", "odd", "k", "value"]) (sc := defScope st_law) (by decide +kernel)) (by decide) (fun _ _ _ _ _ => (sg_name (pg_name (i := 10) sc_law.nd rfl (by first | exact Or.inl rfl | exact Or.inr rfl)))) (fun _ _ _ _ _ => pts_t0) (fun _ _ _ _ _ => (se_callD ((k__law_told W).up (by omega)) hr takesN0 (sa_cons se_int (sa_cons se_int (sa_cons (se_var (pv 10)) (sa_cons (se_var (pv 2)) sa_nil)))))))))) sc_law.nd rfl (by first | exact Or.inl rfl | exact Or.inr rfl))
    (ss_cons (ss_if (PW.pt (sw_or (st_cmp (od_ne (hu_r hr)) (sb_var (pv 17)) (sb (se_bin od_mul (sb (se_of (so_lst (sl_cons se_str sl_nil)))) (sb se_int))) (by first | rfl | exact nomark _)) (sw_or (st_cmp (od_ne (hu_r hr)) (sb (se_callD ((k__law_told W).up (by omega)) hr (L2N.takes_of rfl rfl rfl rfl) (sa_cons se_int (sa_cons se_int (sa_cons se_int (sa_cons (se_var (pv 2)) sa_nil)))))) (sb se_str) (by first | rfl | exact nomark _)) (sw_or (st_cmp (od_ne (hu_r hr)) (sb (se_callD ((k__law_told W).up (by omega)) hr (L2N.takes_of rfl rfl rfl rfl) (sa_cons se_int (sa_cons (se_tup (sl_cons se_int (sl_cons se_int sl_nil))) (sa_cons se_non (sa_cons (se_tup (sl_cons se_int (sl_cons se_int sl_nil))) sa_nil)))))) (sb se_str) (by first | rfl | exact nomark _)) (sw_or1 (st_cmp (od_ne (hu_r hr)) (sb (se_callD ((k__law_told W).up (by omega)) hr (L2N.takes_of rfl rfl rfl rfl) (sa_cons se_int (sa_cons (se_tup (sl_cons se_int (sl_cons se_int sl_nil))) (sa_cons se_non (sa_cons (se_var (pv 2)) sa_nil)))))) (sb se_int) (by first | rfl | exact nomark _)))))))
    (ss_one (ss_ret se_bl))
    ss_nil)
    (ss_cons (ss_set (i := 18) (se_of (so_lst (sl_cons se_non (sl_cons (se_of (so_callTy co_list rfl W.b_list (by decide +kernel) (lb_cons (sb_var (pv 3)) lb_nil))) (sl_cons (se_tup sl_nil) (sl_cons (se_bin od_mul (sb (se_tup (sl_cons se_int sl_nil))) (sb se_int)) (sl_cons (se_tup (sl_cons se_int sl_nil)) (sl_cons (se_tup (sl_cons se_int sl_nil)) (sl_cons (se_tup (sl_cons (se_neg (sb se_int)) sl_nil)) (sl_cons (se_tup (sl_cons se_bl sl_nil)) (sl_cons (se_tup (sl_cons se_non sl_nil)) sl_nil))))))))))) sc_law.nd rfl (by first | exact Or.inl rfl | exact Or.inr rfl))
    (ss_one (ss_ret (se_cmp (od_eq (hu_r hr)) (sb (se_of (so_lc rfl sc_law.nd (own := [("value", 20)]) (si_seq (se_var (pv 18))) (blkOk_by (N := ["script", "draws", "grip", "tackle", "whole", "rolls", "single", "roll", "most", "best", "one", "told", "more", "wider", "load", "lifted", "many", "words", "odd", "k", "value"]) (sc := defScope st_law) (by decide +kernel)) (by decide) (fun _ _ _ _ _ => (sg_name (pg_name (i := 20) sc_law.nd rfl (by first | exact Or.inl rfl | exact Or.inr rfl)))) (fun _ _ _ _ _ => (pts_t1 (st_cmp od_nis (sb (se_callD ((k_is_tackle W).up (by omega)) hr takesN0 (sa_cons (se_var (pv 20)) sa_nil))) (sb se_bl) (by first | rfl | exact nomark _)))) (fun _ _ _ _ _ => (se_var (pv 20)))))) (sb (se_of (so_lst sl_nil))) (by first | rfl | exact nomark _)))))))))))))))))))))))))))))
end
end K89

set_option Elab.async false
set_option linter.all false
set_option maxRecDepth 100000
set_option maxHeartbeats 4000000
/-! K89N: tackles, plainly -/
namespace K89
def S : Nat → Rat → Rat
  | 0, _ => 1
  | r + 1, g => S r g + g ^ (r + 1)
def Lf (g : Rat) : List Nat → Rat
  | [] => 1
  | r :: t => S r g * Lf g t
theorem Lf_snoc (g : Rat) (t : List Nat) (r : Nat) : Lf g (t ++ [r]) = Lf g t * S r g := by
  induction t with
  | nil => simp [Lf]
  | cons x t ih => rw [List.cons_append, Lf, ih, Lf]; grind
theorem pow_add (g : Rat) (a b : Nat) : g ^ (a + b) = g ^ a * g ^ b := by
  induction b with
  | zero => rw [Nat.add_zero, Rat.pow_zero]; grind
  | succ b ih => rw [Nat.add_succ, Rat.pow_succ, Rat.pow_succ, ih]; grind
section
variable {g g' : Rat} (h0 : 0 ≤ g)
include h0
theorem pow_nn (k : Nat) : 0 ≤ g ^ k := by
  induction k with
  | zero => rw [Rat.pow_zero]; decide
  | succ k ih => rw [Rat.pow_succ]; exact Rat.mul_nonneg ih h0
theorem S_pos (r : Nat) : 1 ≤ S r g := by
  induction r with
  | zero => exact Rat.le_refl
  | succ r ih => have := pow_nn h0 (r + 1); rw [S]; grind
theorem S_ge (r : Nat) : g ^ r ≤ S r g := by
  cases r with
  | zero => rw [Rat.pow_zero]; exact Rat.le_refl
  | succ r => have := S_pos h0 r; rw [S]; grind
theorem S_up (r : Nat) : S r g ≤ S (r + 1) g := by
  have := pow_nn h0 (r + 1); rw [S]; grind
theorem S_le (r : Nat) : S r g ≤ (1 + g) ^ r := by
  induction r with
  | zero => rw [Rat.pow_zero]; exact Rat.le_refl
  | succ r ih =>
    have h1 := S_ge h0 r
    have h2 := Rat.mul_le_mul_of_nonneg_left h1 h0
    have h3 := Rat.mul_le_mul_of_nonneg_right ih (show 0 ≤ 1 + g by grind)
    rw [S, Rat.pow_succ, Rat.pow_succ]
    grind
theorem pow_mono (hg : g ≤ g') (k : Nat) : g ^ k ≤ g' ^ k := by
  induction k with
  | zero => rw [Rat.pow_zero, Rat.pow_zero]; exact Rat.le_refl
  | succ k ih =>
    have h1 := pow_nn h0 k
    have h2 := Rat.mul_le_mul_of_nonneg_right ih h0
    have h3 := Rat.mul_le_mul_of_nonneg_left hg (Rat.le_trans h1 ih)
    rw [Rat.pow_succ, Rat.pow_succ]
    exact Rat.le_trans h2 h3
theorem S_mono (hg : g ≤ g') (r : Nat) : S r g ≤ S r g' := by
  induction r with
  | zero => exact Rat.le_refl
  | succ r ih => have := pow_mono h0 hg (r + 1); rw [S, S]; grind
theorem Lf_pos (t : List Nat) : 1 ≤ Lf g t := by
  induction t with
  | nil => exact Rat.le_refl
  | cons r t ih =>
    have h1 := S_pos h0 r
    have h2 := Rat.mul_le_mul_of_nonneg_left ih (show 0 ≤ S r g by grind)
    rw [Lf]; grind
theorem Lf_le (t : List Nat) : Lf g t ≤ (1 + g) ^ t.sum := by
  induction t with
  | nil => simp [Lf]
  | cons r t ih =>
    have h1 := S_le h0 r
    have h2 := S_pos h0 r
    have h3 := Lf_pos h0 t
    have h4 := Rat.mul_le_mul_of_nonneg_right h1 (show 0 ≤ Lf g t by grind)
    have h5 := Rat.mul_le_mul_of_nonneg_left ih (show 0 ≤ (1 + g) ^ r by grind)
    rw [Lf, List.sum_cons, pow_add]
    exact Rat.le_trans h4 h5
theorem Lf_mono (hg : g ≤ g') (t : List Nat) : Lf g t ≤ Lf g' t := by
  induction t with
  | nil => exact Rat.le_refl
  | cons r t ih =>
    have h1 := S_mono h0 hg r
    have h2 := S_pos h0 r
    have h3 := Lf_pos h0 t
    have h4 := Rat.mul_le_mul_of_nonneg_right h1 (show 0 ≤ Lf g t by grind)
    have h5 := Rat.mul_le_mul_of_nonneg_left ih (show 0 ≤ S r g' by grind)
    rw [Lf, Lf]
    exact Rat.le_trans h4 h5
theorem Lf_up (a : List Nat) (r : Nat) (b : List Nat) : Lf g (a ++ r :: b) ≤ Lf g (a ++ (r + 1) :: b) := by
  induction a with
  | nil =>
    have h3 := Lf_pos h0 b
    have := Rat.mul_le_mul_of_nonneg_right (S_up h0 r) (show 0 ≤ Lf g b by grind)
    simpa [Lf] using this
  | cons x a ih =>
    have h2 := S_pos h0 x
    rw [List.cons_append, List.cons_append, Lf, Lf]
    exact Rat.mul_le_mul_of_nonneg_left ih (by grind)
theorem Lf_more (t : List Nat) : Lf g t ≤ Lf g (t ++ [1]) := by
  have h2 := S_pos h0 1
  have h3 := Lf_pos h0 t
  have := Rat.mul_le_mul_of_nonneg_left h2 (show 0 ≤ Lf g t by grind)
  rw [Lf_snoc]; grind
end
theorem Lf_ones (g : Rat) (k : Nat) : Lf g (List.replicate k 1) = (1 + g) ^ k := by
  induction k with
  | zero => rw [Rat.pow_zero]; rfl
  | succ k ih => rw [List.replicate_succ, Lf, ih, Rat.pow_succ]; simp only [S, Rat.pow_succ, Rat.pow_zero]; grind
theorem one_pow (k : Nat) : (1 : Rat) ^ k = 1 := by
  induction k with
  | zero => exact Rat.pow_zero 1
  | succ k ih => rw [Rat.pow_succ, ih]; grind
theorem S_one (r : Nat) : S r 1 = ((r + 1 : Nat) : Rat) := by
  induction r with
  | zero => rfl
  | succ r ih =>
    rw [S, ih, one_pow]
    push_cast
    grind
def prod1 : List Nat → Nat
  | [] => 1
  | r :: t => (r + 1) * prod1 t
theorem Lf_one (t : List Nat) : Lf 1 t = ((prod1 t : Nat) : Rat) := by
  induction t with
  | nil => rfl
  | cons r t ih => rw [Lf, S_one, ih, prod1]; push_cast; rfl
theorem prod1_snoc (t : List Nat) (r : Nat) : prod1 (t ++ [r]) = prod1 t * (r + 1) := by
  induction t with
  | nil => simp [prod1]
  | cons x t ih => rw [List.cons_append, prod1, ih, prod1, Nat.mul_assoc]
/-! ### all tackles -/
abbrev Ed := List Nat × Nat
def ext (most : Nat) (p : Ed) : List Ed := if p.1.length < most then (List.range (min p.2 8)).map fun k => (p.1 ++ [k + 1], p.2 - (k + 1)) else []
def edges (most rolls : Nat) : Nat → List Ed
  | 0 => [([], rolls)]
  | k + 1 => (edges most rolls k).flatMap (ext most)
def done (l : List Ed) : List (List Nat) := (l.filter fun p => decide (p.2 = 0)).map (·.1)
def T (most rolls : Nat) : Nat → List (List Nat)
  | 0 => []
  | k + 1 => T most rolls k ++ done (edges most rolls k)
structure EdOk (most rolls k : Nat) (p : Ed) : Prop where
  len : p.1.length = k
  le : k ≤ most
  lo : ∀ x ∈ p.1, 1 ≤ x ∧ x ≤ 8
  sum : p.1.sum + p.2 = rolls
theorem edge_ok {most rolls : Nat} : ∀ (k : Nat) (p : Ed), p ∈ edges most rolls k → EdOk most rolls k p
  | 0, p, h => by
    rw [edges, List.mem_singleton] at h
    subst h
    exact ⟨rfl, Nat.zero_le _, fun x h => (by cases h), by simp⟩
  | k + 1, p, h => by
    rw [edges, List.mem_flatMap] at h
    obtain ⟨q, hq, h⟩ := h
    have o := edge_ok k q hq
    unfold ext at h
    by_cases c : q.1.length < most
    · rw [if_pos c] at h
      obtain ⟨j, hj, rfl⟩ := List.mem_map.mp h
      rw [List.mem_range] at hj
      have := o.len
      have := o.sum
      refine ⟨by simp [o.len], by omega, fun x hx => ?_, ?_⟩
      · rcases List.mem_append.mp hx with hx | hx
        · exact o.lo x hx
        · rw [List.mem_singleton.mp hx]; omega
      · rw [List.sum_append]; simp; omega
    · rw [if_neg c] at h; cases h
theorem edge_all {most rolls : Nat} : ∀ (k : Nat) (p : Ed), EdOk most rolls k p → p ∈ edges most rolls k
  | 0, p, o => by
    rw [edges, List.mem_singleton]
    have h1 := List.eq_nil_of_length_eq_zero o.len
    have h2 := o.sum
    rw [h1] at h2
    simp at h2
    rw [← h1, ← h2]
  | k + 1, p, o => by
    obtain ⟨row, left⟩ := p
    rcases List.eq_nil_or_concat row with rfl | ⟨init, x, rfl⟩
    · have := o.len; simp at this
    · rw [List.concat_eq_append] at *
      have hl := o.len
      have hs := o.sum
      have hx := o.lo x (by simp)
      simp at hl
      rw [List.sum_append] at hs
      simp at hs
      rw [edges, List.mem_flatMap]
      refine ⟨(init, left + x), edge_all k _ ⟨hl, by have := o.le; omega, fun y hy => o.lo y (by simp [hy]), by simp; omega⟩, ?_⟩
      unfold ext
      rw [if_pos (by have := o.le; show init.length < most; omega), List.mem_map]
      refine ⟨x - 1, List.mem_range.mpr (by simp; omega), ?_⟩
      have : x - 1 + 1 = x := by omega
      simp [this]
theorem edge_end (most rolls : Nat) (j : Nat) : edges most rolls (most + 1 + j) = [] := by
  refine List.eq_nil_iff_forall_not_mem.mpr fun p hp => ?_
  have := (edge_ok _ p hp).le
  omega
theorem edge_len (most rolls : Nat) : ∀ k : Nat, (edges most rolls k).length ≤ 8 ^ k
  | 0 => Nat.le_refl _
  | k + 1 => by
    have h := edge_len most rolls k
    have : ∀ l : List Ed, (l.flatMap (ext most)).length ≤ l.length * 8 := fun l => by
      induction l with
      | nil => exact Nat.le_refl _
      | cons p l ih =>
        rw [List.flatMap_cons, List.length_append, List.length_cons, Nat.succ_mul]
        have : (ext most p).length ≤ 8 := by
          unfold ext
          split
          · rw [List.length_map, List.length_range]; omega
          · exact Nat.zero_le _
        omega
    rw [edges, Nat.pow_succ]
    exact Nat.le_trans (this _) (Nat.mul_le_mul_right 8 h)
def TT (most rolls : Nat) : List (List Nat) := T most rolls (most + 1)
theorem T_same {most rolls k : Nat} (h : edges most rolls k = []) : ∀ j : Nat, edges most rolls (k + j) = [] ∧ T most rolls (k + j) = T most rolls k
  | 0 => ⟨h, rfl⟩
  | j + 1 => by
    obtain ⟨h1, h2⟩ := T_same h j
    refine ⟨?_, ?_⟩
    · show (edges most rolls (k + j)).flatMap _ = _
      rw [h1]; rfl
    · show T most rolls (k + j) ++ done (edges most rolls (k + j)) = _
      rw [h1, h2]; simp [done]
theorem mem_T {most rolls : Nat} {t : List Nat} : ∀ n : Nat, t ∈ T most rolls n ↔ ∃ k < n, (t, 0) ∈ edges most rolls k
  | 0 => by simp [T]
  | n + 1 => by
    rw [T, List.mem_append, mem_T n]
    have : t ∈ done (edges most rolls n) ↔ (t, 0) ∈ edges most rolls n := by
      unfold done
      rw [List.mem_map]
      constructor
      · rintro ⟨⟨a, b⟩, h1, rfl⟩
        obtain ⟨h1, h2⟩ := List.mem_filter.mp h1
        have h2 : b = 0 := of_decide_eq_true h2
        subst h2; exact h1
      · intro h
        exact ⟨(t, 0), List.mem_filter.mpr ⟨h, rfl⟩, rfl⟩
    rw [this]
    constructor
    · rintro (⟨k, h1, h2⟩ | h)
      · exact ⟨k, by omega, h2⟩
      · exact ⟨n, by omega, h⟩
    · rintro ⟨k, h1, h2⟩
      rcases Nat.lt_or_ge k n with q | q
      · exact .inl ⟨k, q, h2⟩
      · have : k = n := by omega
        subst this; exact .inr h2
theorem mem_TT {most rolls : Nat} {t : List Nat} : t ∈ TT most rolls ↔ t.length ≤ most ∧ (∀ x ∈ t, 1 ≤ x ∧ x ≤ 8) ∧ t.sum = rolls := by
  unfold TT
  rw [mem_T]
  constructor
  · rintro ⟨k, h1, h2⟩
    have o := edge_ok k _ h2
    exact ⟨by have := o.len; have := o.le; simp at *; omega, o.lo, by have := o.sum; simpa using this⟩
  · rintro ⟨h1, h2, h3⟩
    exact ⟨t.length, by omega, edge_all _ _ ⟨rfl, h1, h2, by simpa using h3⟩⟩
theorem T_len {most rolls : Nat} (hm : most ≤ 4) : ∀ n : Nat, n ≤ 5 → (T most rolls n).length ≤ 10000 := fun n hn => by
  have hd : ∀ k, (done (edges most rolls k)).length ≤ 8 ^ k := fun k => by
    unfold done
    rw [List.length_map]
    exact Nat.le_trans (List.length_filter_le _ _) (edge_len most rolls k)
  have h0 := hd 0
  have h1 := hd 1
  have h2 := hd 2
  have h3 := hd 3
  have h4 := hd 4
  match n, hn with
  | 0, _ => simp [T]
  | 1, _ => simp [T]; omega
  | 2, _ => simp [T]; omega
  | 3, _ => simp [T]; omega
  | 4, _ => simp [T]; omega
  | 5, _ => simp [T]; omega
/-! ### the best -/
section
variable (lex : List Nat → List Nat → Bool) (g : Rat)
def better (a b : List Nat) : Bool := if Lf g a = Lf g b then lex a b else decide (Lf g b < Lf g a)
def pick (o : Option (List Nat)) (t : List Nat) : Option (List Nat) := match o with
  | none => some t
  | some b => if better lex g t b = true then some t else some b
def best (l : List (List Nat)) : Option (List Nat) := l.foldl (pick lex g) none
theorem best_snoc (l : List (List Nat)) (t : List Nat) : best lex g (l ++ [t]) = pick lex g (best lex g l) t := by
  unfold best; rw [List.foldl_append]; rfl
theorem best_spec : ∀ l : List (List Nat), (best lex g l = none ↔ l = []) ∧ ∀ b, best lex g l = some b → b ∈ l ∧ ∀ t ∈ l, Lf g t ≤ Lf g b := by
  intro l
  induction hn : l.length generalizing l with
  | zero =>
    have := List.eq_nil_of_length_eq_zero hn
    subst this
    exact ⟨⟨fun _ => rfl, fun _ => rfl⟩, fun b h => by cases h⟩
  | succ n ih =>
    rcases List.eq_nil_or_concat l with rfl | ⟨l', x, rfl⟩
    · cases hn
    · rw [List.concat_eq_append] at *
      simp at hn
      obtain ⟨i1, i2⟩ := ih l' hn
      rw [best_snoc]
      cases e : best lex g l' with
      | none =>
        have := i1.mp e
        subst this
        refine ⟨⟨(fun h => by cases h), (fun h => by cases h)⟩, fun b h => ?_⟩
        cases h
        exact ⟨by simp, fun t ht => by simp at ht; rw [ht]; exact Rat.le_refl⟩
      | some c =>
        obtain ⟨c1, c2⟩ := i2 c e
        unfold pick
        dsimp only
        by_cases q : better lex g x c = true
        · rw [if_pos q]
          refine ⟨⟨(fun h => by cases h), (fun h => by simp at h)⟩, fun b h => ?_⟩
          cases h
          have hx : Lf g c ≤ Lf g x := by
            unfold better at q
            split at q
            · rename_i h; rw [h]; exact Rat.le_refl
            · exact Rat.le_of_lt (of_decide_eq_true q)
          refine ⟨by simp, fun t ht => ?_⟩
          rcases List.mem_append.mp ht with ht | ht
          · exact Rat.le_trans (c2 t ht) hx
          · rw [List.mem_singleton.mp ht]; exact Rat.le_refl
        · rw [if_neg q]
          refine ⟨⟨(fun h => by cases h), (fun h => by simp at h)⟩, fun b h => ?_⟩
          cases h
          have hx : Lf g x ≤ Lf g c := by
            unfold better at q
            split at q
            · rename_i h; rw [h]; exact Rat.le_refl
            · exact Rat.not_lt.mp fun z => q (decide_eq_true z)
          refine ⟨by simp [c1], fun t ht => ?_⟩
          rcases List.mem_append.mp ht with ht | ht
          · exact c2 t ht
          · rw [List.mem_singleton.mp ht]; exact hx
theorem best_some {l : List (List Nat)} {t : List Nat} (h : t ∈ l) : ∃ b, best lex g l = some b ∧ b ∈ l ∧ ∀ t ∈ l, Lf g t ≤ Lf g b := by
  obtain ⟨h1, h2⟩ := best_spec lex g l
  cases e : best lex g l with
  | none => rw [h1.mp e] at h; cases h
  | some b => exact ⟨b, rfl, h2 b e⟩
end
theorem split8 : ∀ t : List Nat, (∀ x ∈ t, 1 ≤ x ∧ x ≤ 8) → (∃ a r b, t = a ++ r :: b ∧ r < 8) ∨ t.sum = 8 * t.length
  | [], _ => .inr rfl
  | x :: t, h => by
    by_cases q : x < 8
    · exact .inl ⟨[], x, t, rfl, q⟩
    · rcases split8 t fun y hy => h y (List.mem_cons_of_mem _ hy) with ⟨a, r, b, e, hr⟩ | e
      · exact .inl ⟨x :: a, r, b, by rw [e]; rfl, hr⟩
      · have := h x List.mem_cons_self
        exact .inr (by rw [List.sum_cons, e, List.length_cons]; omega)
/-- one roll more is no worse, unless there is no such tackle -/
theorem more_ok {g : Rat} (h0 : 0 ≤ g) {most rolls : Nat} {b t' : List Nat} (hb : b ∈ TT most rolls) (ht : t' ∈ TT most (rolls + 1)) : ∃ t ∈ TT most (rolls + 1), Lf g b ≤ Lf g t := by
  obtain ⟨h1, h2, h3⟩ := mem_TT.mp hb
  rcases split8 b h2 with ⟨a, r, c, rfl, hr⟩ | e
  · refine ⟨a ++ (r + 1) :: c, mem_TT.mpr ⟨by simpa using h1, fun x hx => ?_, ?_⟩, Lf_up h0 a r c⟩
    · rcases List.mem_append.mp hx with hx | hx
      · exact h2 x (by simp [hx])
      · rcases List.mem_cons.mp hx with hx | hx
        · rw [hx]; omega
        · exact h2 x (by simp [hx])
    · simp at h3 ⊢; omega
  · by_cases q : b.length < most
    · refine ⟨b ++ [1], mem_TT.mpr ⟨by simp; omega, fun x hx => ?_, by simp; omega⟩, Lf_more h0 b⟩
      rcases List.mem_append.mp hx with hx | hx
      · exact h2 x hx
      · rw [List.mem_singleton.mp hx]; omega
    · exfalso
      obtain ⟨k1, k2, k3⟩ := mem_TT.mp ht
      have : ∀ t : List Nat, (∀ x ∈ t, 1 ≤ x ∧ x ≤ 8) → t.sum ≤ 8 * t.length := fun t => by
        induction t with
        | nil => intro _; exact Nat.le_refl _
        | cons x t ih =>
          intro h
          have := h x List.mem_cons_self
          have := ih fun y hy => h y (List.mem_cons_of_mem _ hy)
          rw [List.sum_cons, List.length_cons]; omega
      have := this t' k2
      omega
/-- how many rolls, at most n -/
def kf (c load : Rat) : Nat → Rat → Nat
  | 0, _ => 0
  | n + 1, p => if p < load then 1 + kf c load n (p * c) else 0
theorem kf_le (c load : Rat) : ∀ n p, kf c load n p ≤ n
  | 0, _ => Nat.le_refl _
  | n + 1, p => by rw [kf]; split; have := kf_le c load n (p * c); omega; omega
end K89

set_option Elab.async false
set_option linter.all false
set_option maxRecDepth 100000
set_option maxHeartbeats 4000000
/-! K89M: fractions and lifts, walked -/
namespace K89
open PySem PySem.Spec L2 DL DG PyProof.Rows PySem.W DM DQ
theorem lowOk : LowOk 4000 m_lowest := fun p q w hq _ hb => by
  unfold m_lowest
  exact DQ.s_lowest p q w (n := 4000) (by decide) hq hb
theorem s_lgcd (p : Int) (q : Nat) (w : Wd) (hb : Bd 1400 (q : Int)) : m__law_gcd [.v (.int p), .v (.int (q : Int))] w = .ok (nD (Nat.gcd p.natAbs q)) w := by
  unfold m__law_gcd
  rw [fnD_eq]
  unfold f__law_gcd
  have hq : q < 2 ^ 1400 := by unfold Bd at hb; rwa [Int.natAbs_natCast] at hb
  have e := euc_whl w 3000 1400 p.natAbs q hq (by decide)
  have e0 : ent 2 2 [.v (.int p), .v (.int (q : Int))] = [some (.v (.int p)), some (.v (.int (q : Int)))] := rfl
  have s1 : sPar 0 1 (lC (eCall gAbs (lC (eBw 0) lN)) (lC (eCall gAbs (lC (eBw 1) lN)) lN)) [some (.v (.int p)), some (.v (.int (q : Int)))] w = .nx [some (.v (nD p.natAbs)), some (.v (nD q))] w := by
    have h1 : ¬ ((q : Int) < 0) := by omega
    simp [sPar, abs_nat, nD, h1]
  rw [e0, u_sSeq, s1, seqK_nx, u_sSeq]
  have e' : whl (tCm dGt (eBw 1) (eC (.int 0))) b__law_gcd_0 3000 [some (.v (nD p.natAbs)), some (.v (nD q))] w = _ := e
  rw [e', seqK_nx]
  rfl
theorem lpartOk : LowOk 1400 m__law_part := fun p q w hq _ hb => by
  unfold m__law_part
  rw [fnD_eq]
  unfold f__law_part
  have h0 : 0 < Nat.gcd p.natAbs q := Nat.gcd_pos_of_pos_right _ hq
  have e1 := dFdiv_bd (n := 1400) (i := p) (by decide) (by omega : (0 : Int) < ((Nat.gcd p.natAbs q : Nat) : Int)) (bd_gcd p hq hb)
  have e2 := dFdiv_bd (n := 1400) (i := (q : Int)) (by decide) (by omega : (0 : Int) < ((Nat.gcd p.natAbs q : Nat) : Int)) (bd_gcd p hq hb)
  rw [fdiv_nat] at e1 e2
  have e := s_lgcd p q w hb
  have e : m__law_gcd [.v (.int p), .v (.int (q : Int))] w = .ok (.int ((Nat.gcd p.natAbs q : Nat) : Int)) w := e
  simp only [u_sSeq, u_sAsg, u_eCallF, u_aCons, u_aNil, u_eV, u_lC, u_eBw, u_ent, List.map_cons, List.map_nil, List.cons_append, List.nil_append, List.getElem?_cons_zero, List.getElem?_cons_succ, bind_ok, u_lN, e, of_some, bindS_ok, u_gN, List.length_cons, List.length_nil, Nat.reduceSub, List.replicate, Nat.reduceAdd, Nat.reduceLT, if_true, ofO_some, seqK_nx,
    List.set_cons_succ, List.set_cons_zero, u_sRet, u_eTup, u_eBin, e1, e2]
  rw [if_pos (by rw [big]; omega), bindS_ok, fnR_rt, qD_mk p q hq]
  rw [Int.natCast_ediv]
section
variable {n m : Nat} {a b : Rat} (w : Wd)
theorem s_plus (ha : Sz n a) (hb : Sz m b) (h : n + m + 1 ≤ 4000) : m_plus [.v (qD a), .v (qD b)] w = .ok (qD (a + b)) w := by
  unfold m_plus
  exact DQ.s_plus lowOk (by decide) ha hb h w
theorem s_times (ha : Sz n a) (hb : Sz m b) (h : n + m ≤ 4000) : m_times [.v (qD a), .v (qD b)] w = .ok (qD (a * b)) w := by
  unfold m_times
  exact DQ.s_times lowOk (by decide) ha hb h w
theorem s_less (ha : Sz n a) (hb : Sz n b) (h : n ≤ 4000) : m_less [.v (qD a), .v (qD b)] w = .ok (.bool (decide (a < b))) w := by
  unfold m_less
  exact DQ.s_less ha hb (by omega) w
theorem s_lplus (ha : Sz n a) (hb : Sz m b) (h : n + m + 1 ≤ 1400) : m__law_plus [.v (qD a), .v (qD b)] w = .ok (qD (a + b)) w := by
  unfold m__law_plus
  exact DQ.s_plus lpartOk (by decide) ha hb h w
theorem s_lminus (ha : Sz n a) (hb : Sz m b) (h : n + m + 1 ≤ 1400) : m__law_minus [.v (qD a), .v (qD b)] w = .ok (qD (a - b)) w := by
  unfold m__law_minus
  exact DQ.s_minus lpartOk (by decide) ha hb h w
theorem s_ltimes (ha : Sz n a) (hb : Sz m b) (h : n + m ≤ 1400) : m__law_times [.v (qD a), .v (qD b)] w = .ok (qD (a * b)) w := by
  unfold m__law_times
  exact DQ.s_times lpartOk (by decide) ha hb h w
theorem s_lless (ha : Sz n a) (hb : Sz n b) (h : n ≤ 4000) : m__law_less [.v (qD a), .v (qD b)] w = .ok (.bool (decide (a < b))) w := by
  unfold m__law_less
  exact DQ.s_less ha hb (by omega) w
end
theorem sz1 : Sz 1 (1 : Rat) := sz_int (i := 1) (by unfold Bd; decide) (by decide)
theorem sz_pow {d : Nat} {g : Rat} (hg : Sz d g) : ∀ k : Nat, Sz (d * k + 1) (g ^ k)
  | 0 => by rw [Rat.pow_zero]; exact sz1
  | k + 1 => by
    rw [Rat.pow_succ]
    exact ((sz_pow hg k).mul hg).mono (by rw [Nat.mul_succ]; omega)
theorem sz_S {d : Nat} {g : Rat} (hg : Sz d g) : ∀ r : Nat, r ≤ 8 → Sz (r * (8 * d + 2) + 1) (S r g)
  | 0, _ => sz1.mono (by omega)
  | r + 1, h => by
    have h1 := sz_S hg r (by omega)
    have h2 := sz_pow hg (r + 1)
    have : d * (r + 1) ≤ d * 8 := Nat.mul_le_mul_left d h
    rw [S]
    have e : (r + 1) * (8 * d + 2) = r * (8 * d + 2) + (8 * d + 2) := Nat.succ_mul _ _
    exact (h1.add h2).mono (by omega)
theorem sz_Lf {d : Nat} {g : Rat} (hg : Sz d g) : ∀ t : List Nat, (∀ x ∈ t, x ≤ 8) → Sz (t.length * (64 * d + 17) + 1) (Lf g t)
  | [], _ => sz1.mono (by omega)
  | r :: t, h => by
    have h1 := sz_S hg r (h r List.mem_cons_self)
    have h2 := sz_Lf hg t fun x hx => h x (List.mem_cons_of_mem _ hx)
    have h8 := h r List.mem_cons_self
    have : r * (8 * d + 2) ≤ 8 * (8 * d + 2) := Nat.mul_le_mul_right _ h8
    rw [Lf, List.length_cons]
    have e : (t.length + 1) * (64 * d + 17) = t.length * (64 * d + 17) + (64 * d + 17) := Nat.succ_mul _ _
    exact (h1.mul h2).mono (by omega)
theorem range_at {n : Nat} {p q : List Nat} {x : Nat} (h : List.range n = p ++ x :: q) : x = p.length ∧ p.length < n := by
  have hl := congrArg List.length h
  simp at hl
  have h1 : (List.range n)[p.length]? = some x := by rw [h]; simp
  rw [List.getElem?_range (by omega)] at h1
  exact ⟨(Option.some.inj h1).symm, by omega⟩
theorem s_part_lifts {d : Nat} {g : Rat} (hg : Sz d g) (hd : d ≤ 16) (r : Nat) (hr : r ≤ 8) (w : Wd) : m_part_lifts [.v (nD r), .v (qD g)] w = .ok (qD (S r g)) w := by
  unfold m_part_lifts
  rw [fnD_eq]
  unfold f_part_lifts
  have e0 : ent 2 5 [.v (nD r), .v (qD g)] = [some (.v (nD r)), some (.v (qD g)), none, none, none] := rfl
  have s1 : sAsg (eTup (lC (eTup (lC (eC (.int 1)) (lC (eC (.int 1)) lN))) (lC (eTup (lC (eC (.int 1)) (lC (eC (.int 1)) lN))) lN))) (gT 2 (gsC (gN 2) (gsC (gN 3) gsN))) [some (.v (nD r)), some (.v (qD g)), none, none, none] w = .nx [some (.v (nD r)), some (.v (qD g)), some (.v (qD (S 0 g))), some (.v (qD (g ^ 0))), none] w := by
    rw [Rat.pow_zero]
    simp [big]
    exact ⟨rfl, rfl⟩
  obtain ⟨ρ, w', e, hw, x, h1⟩ := forL_inv (tgt := gN 4) (body := b_part_lifts_0) nD (fun pre ρ' w' => w' = w ∧ ∃ x : Option Sl, ρ' = [some (.v (nD r)), some (.v (qD g)), some (.v (qD (S pre.length g))), some (.v (qD (g ^ pre.length))), x]) (List.range r) [] [some (.v (nD r)), some (.v (qD g)), some (.v (qD (S 0 g))), some (.v (qD (g ^ 0))), none] w ⟨rfl, none, rfl⟩
    (fun p b q ρ' w' hq ⟨hw, x, h1⟩ => by
      subst hw h1
      rw [List.nil_append] at hq
      obtain ⟨_, hp⟩ := range_at hq
      have z1 := sz_pow hg p.length
      have z2 := sz_S hg p.length (by omega)
      have z3 := sz_pow hg (p.length + 1)
      have k1 : d * p.length ≤ 16 * 8 := Nat.mul_le_mul hd (by omega)
      have k2 : d * (p.length + 1) ≤ 16 * 8 := Nat.mul_le_mul hd (by omega)
      have k3 : p.length * (8 * d + 2) ≤ 8 * (8 * 16 + 2) := Nat.mul_le_mul (by omega) (by omega)
      have t := s_times w' z1 hg (by omega)
      have u := s_plus w' z2 z3 (by omega)
      rw [← Rat.pow_succ] at t
      refine ⟨_, [some (.v (nD r)), some (.v (qD g)), some (.v (qD (S (p ++ [b]).length g))), some (.v (qD (g ^ (p ++ [b]).length))), some (.v (nD b))], w', rfl, .inl ?_, rfl, _, rfl⟩
      rw [List.length_append, List.length_singleton, S]
      unfold b_part_lifts_0
      simp [t, u])
  subst hw h1
  rw [List.nil_append, List.length_range] at e
  have rr : iR1 (eBw 0) [some (.v (nD r)), some (.v (qD g)), some (.v (qD (S 0 g))), some (.v (qD (g ^ 0))), none] w' = .ok ((List.range r).map nD) w' := iR1_ok (j := (r : Int)) (w1 := w') rfl (by omega) (by omega)
  rw [e0, u_sSeq, s1, seqK_nx, u_sSeq, u_sFor, rr, bindS_ok, e, seqK_nx]
  rfl
def tD (t : List Nat) : D := .tuple (t.map nD)
theorem s_lifts {d : Nat} {g : Rat} (hg : Sz d g) (t : List Nat) (ht : ∀ x ∈ t, x ≤ 8) (hz : d ≤ 16) (hl : t.length * (64 * d + 17) ≤ 3600) (w : Wd) : m_lifts [.v (tD t), .v (qD g)] w = .ok (qD (Lf g t)) w := by
  unfold m_lifts
  rw [fnD_eq]
  unfold f_lifts
  have e0 : ent 2 4 [.v (tD t), .v (qD g)] = [some (.v (tD t)), some (.v (qD g)), none, none] := rfl
  have s1 : sAsg (eTup (lC (eC (.int 1)) (lC (eC (.int 1)) lN))) (gN 2) [some (.v (tD t)), some (.v (qD g)), none, none] w = .nx [some (.v (tD t)), some (.v (qD g)), some (.v (qD (Lf g []))), none] w := by
    simp [big]
    rfl
  obtain ⟨ρ, w', e, hw, x, h1⟩ := forL_inv (tgt := gN 3) (body := b_lifts_0) nD (fun pre ρ' w' => w' = w ∧ ∃ x : Option Sl, ρ' = [some (.v (tD t)), some (.v (qD g)), some (.v (qD (Lf g pre))), x]) t [] [some (.v (tD t)), some (.v (qD g)), some (.v (qD (Lf g []))), none] w ⟨rfl, none, rfl⟩
    (fun p b q ρ' w' hq ⟨hw, x, h1⟩ => by
      subst hw h1
      rw [List.nil_append] at hq
      have hb : b ≤ 8 := ht b (by rw [hq]; simp)
      have hpt : ∀ x ∈ p, x ≤ 8 := fun x hx => ht x (by rw [hq]; simp [hx])
      have hpl : p.length + 1 ≤ t.length := by rw [hq]; simp
      have z1 := sz_Lf hg p hpt
      have z2 := sz_S hg b hb
      have k3 : b * (8 * d + 2) ≤ 8 * (8 * d + 2) := Nat.mul_le_mul_right _ hb
      have k4 : (p.length + 1) * (64 * d + 17) ≤ t.length * (64 * d + 17) := Nat.mul_le_mul_right _ hpl
      rw [Nat.succ_mul] at k4
      have pl := s_part_lifts hg hz b hb w'
      have u := s_times w' z1 z2 (by omega)
      refine ⟨_, [some (.v (tD t)), some (.v (qD g)), some (.v (qD (Lf g (p ++ [b])))), some (.v (nD b))], w', rfl, .inl ?_, rfl, _, rfl⟩
      rw [Lf_snoc]
      unfold b_lifts_0
      simp [pl, u])
  subst hw h1
  rw [List.nil_append] at e
  have i : iS (eV 0) [some (.v (tD t)), some (.v (qD g)), some (.v (qD (Lf g []))), none] w' = .ok (t.map nD) w' := rfl
  rw [e0, u_sSeq, s1, seqK_nx, u_sSeq, u_sFor, i, bindS_ok, e, seqK_nx]
  rfl
/-! ### the law's lifts -/
def SS (g : Rat) : Nat → Rat
  | 0 => 0
  | k + 1 => S k g
theorem SS_succ (g : Rat) : ∀ k : Nat, SS g (k + 1) = SS g k + g ^ k
  | 0 => by simp [SS, S, Rat.pow_zero]; grind
  | k + 1 => rfl
theorem s_lsum {g : Rat} (hg : Sz 5 g) (n : Nat) (hn : n ≤ 9) (w : Wd) : m__law_sum [.v (.list ((List.range n).map fun k => qD (g ^ k)))] w = .ok (qD (SS g n)) w := by
  unfold m__law_sum
  rw [fnD_eq]
  unfold f__law_sum
  generalize hr : (PyData.list ((List.range n).map fun k => qD (g ^ k))) = rows
  have e0 : ent 1 3 [.v rows] = [some (.v rows), none, none] := rfl
  have s1 : sAsg (eTup (lC (eC (.int 0)) (lC (eC (.int 1)) lN))) (gN 1) [some (.v rows), none, none] w = .nx [some (.v rows), some (.v (qD (SS g 0))), none] w := by
    simp [big]
    rfl
  obtain ⟨ρ, w', e, hw, x, h1⟩ := forL_inv (tgt := gN 2) (body := b__law_sum_0) (fun k : Nat => qD (g ^ k)) (fun pre ρ' w' => w' = w ∧ ∃ x : Option Sl, ρ' = [some (.v rows), some (.v (qD (SS g pre.length))), x]) (List.range n) [] [some (.v rows), some (.v (qD (SS g 0))), none] w ⟨rfl, none, rfl⟩
    (fun p b q ρ' w' hq ⟨hw, x, h1⟩ => by
      subst hw h1
      rw [List.nil_append] at hq
      obtain ⟨hb, hp⟩ := range_at hq
      subst hb
      have z1 : Sz 350 (SS g p.length) := by
        cases hpl : p.length with
        | zero => exact (sz_int (i := 0) (n := 1) (by unfold Bd; decide) (by decide)).mono (by decide)
        | succ k => exact (sz_S hg k (by omega)).mono (by omega)
      have z2 := sz_pow hg p.length
      have u := s_lplus w' z1 z2 (by omega)
      rw [← SS_succ] at u
      refine ⟨_, [some (.v rows), some (.v (qD (SS g (p ++ [p.length]).length))), some (.v (qD (g ^ p.length)))], w', rfl, .inl ?_, rfl, _, rfl⟩
      rw [List.length_append, List.length_singleton]
      unfold b__law_sum_0
      simp [u])
  subst hw h1
  rw [List.nil_append, List.length_range] at e
  have i : iS (eV 0) [some (.v rows), some (.v (qD (SS g 0))), none] w' = .ok ((List.range n).map fun k => qD (g ^ k)) w' := by rw [← hr]; rfl
  rw [e0, u_sSeq, s1, seqK_nx, u_sSeq, u_sFor, i, bindS_ok, e, seqK_nx]
  rfl
theorem s_llifts {g : Rat} (hg : Sz 5 g) (t : List Nat) (ht : ∀ x ∈ t, x ≤ 8) (hl : t.length ≤ 4) (w : Wd) : m__law_lifts [.v (tD t), .v (qD g)] w = .ok (qD (Lf g t)) w := by
  unfold m__law_lifts
  rw [fnD_eq]
  unfold f__law_lifts
  have e0 : ent 2 7 [.v (tD t), .v (qD g)] = [some (.v (tD t)), some (.v (qD g)), none, none, none, none, none] := rfl
  have s1 : sAsg (eTup (lC (eC (.int 1)) (lC (eC (.int 1)) lN))) (gN 2) [some (.v (tD t)), some (.v (qD g)), none, none, none, none, none] w = .nx [some (.v (tD t)), some (.v (qD g)), some (.v (qD (Lf g []))), none, none, none, none] w := by
    simp [big]
    rfl
  obtain ⟨ρ, w', e, hw, x3, x4, x5, x6, h1⟩ := forL_inv (tgt := gN 3) (body := b__law_lifts_1) nD (fun pre ρ' w' => w' = w ∧ ∃ x3 x4 x5 x6 : Option Sl, ρ' = [some (.v (tD t)), some (.v (qD g)), some (.v (qD (Lf g pre))), x3, x4, x5, x6]) t [] [some (.v (tD t)), some (.v (qD g)), some (.v (qD (Lf g []))), none, none, none, none] w ⟨rfl, none, none, none, none, rfl⟩
    (fun p b q ρ' w' hq ⟨hw, x3, x4, x5, x6, h1⟩ => by
      subst hw h1
      rw [List.nil_append] at hq
      have hb : b ≤ 8 := ht b (by rw [hq]; simp)
      have hpt : ∀ x ∈ p, x ≤ 8 := fun x hx => ht x (by rw [hq]; simp [hx])
      have hpl : p.length + 1 ≤ t.length := by rw [hq]; simp
      have z1 := sz_Lf hg p hpt
      have z2 := sz_S hg b hb
      have u := s_ltimes w' z1 z2 (by omega)
      have sm := s_lsum hg (b + 1) (by omega) w'
      let A := some (Sl.v (tD t))
      let G := some (Sl.v (qD g))
      let P := some (Sl.v (qD (Lf g p)))
      let B := some (Sl.v (nD b))
      have q1 : sParO 4 5 (oLst (lC (eTup (lC (eC (.int 1)) (lC (eC (.int 1)) lN))) lN)) (eTup (lC (eC (.int 1)) (lC (eC (.int 1)) lN))) [A, G, P, B, x4, x5, x6] w' = .nx [A, G, P, B, some (.ol ((List.range 1).map fun k => qD (g ^ k))), some (.v (qD (g ^ 0))), x6] w' := by
        unfold sParO
        simp [big, Rat.pow_zero]
        rfl
      obtain ⟨ρ2, w2, e2, hw2, y6, h2⟩ := forL_inv (tgt := gN 6) (body := b__law_lifts_0) nD (fun pre ρ' w2 => w2 = w' ∧ ∃ y6 : Option Sl, ρ' = [A, G, P, B, some (.ol ((List.range (pre.length + 1)).map fun k => qD (g ^ k))), some (.v (qD (g ^ pre.length))), y6]) (List.range b) [] [A, G, P, B, some (.ol ((List.range 1).map fun k => qD (g ^ k))), some (.v (qD (g ^ 0))), x6] w' ⟨rfl, x6, rfl⟩
        (fun pp x qq ρ' w2 hqq ⟨hw, y6, h1⟩ => by
          subst hw h1
          rw [List.nil_append] at hqq
          obtain ⟨_, hpp⟩ := range_at hqq
          have t1 := s_ltimes w2 (sz_pow hg pp.length) hg (by omega)
          rw [← Rat.pow_succ] at t1
          refine ⟨_, [A, G, P, B, some (.ol ((List.range ((pp ++ [x]).length + 1)).map fun k => qD (g ^ k))), some (.v (qD (g ^ (pp ++ [x]).length))), some (.v (nD x))], w2, rfl, .inl ?_, rfl, _, rfl⟩
          rw [List.length_append, List.length_singleton, List.range_succ (n := pp.length + 1), List.map_append]
          unfold b__law_lifts_0
          have hlen : pp.length + 1 < 16777216 := by omega
          simp [t1, sApp, big, hlen, A, G])
      subst hw2 h2
      rw [List.nil_append, List.length_range] at e2
      have rr : iR1 (eBw 3) [A, G, P, B, some (.ol ((List.range 1).map fun k => qD (g ^ k))), some (.v (qD (g ^ 0))), x6] w2 = .ok ((List.range b).map nD) w2 := iR1_ok (j := (b : Int)) (w1 := w2) rfl (by omega) (by omega)
      refine ⟨[A, G, P, B, x4, x5, x6], [A, G, some (.v (qD (Lf g (p ++ [b])))), B, some (.v (.list ((List.range (b + 1)).map fun k => qD (g ^ k)))), some (.v (qD (g ^ b))), y6], w2, rfl, .inl ?_, rfl, _, _, _, _, rfl⟩
      rw [Lf_snoc]
      unfold b__law_lifts_1
      rw [u_sSeq, q1, seqK_nx, u_sSeq, u_sFor, rr, bindS_ok, e2, seqK_nx, u_sSeq, u_sFz]
      simp only [List.getElem?_cons_zero, List.getElem?_cons_succ, List.set_cons_succ, List.set_cons_zero, seqK_nx]
      have sm : m__law_sum [.v (.list ((List.range (b + 1)).map fun k => qD (g ^ k)))] w2 = .ok (qD (S b g)) w2 := sm
      simp only [u_sAsg, u_eCallF, u_aCons, u_aNil, u_eV, List.getElem?_cons_zero, List.getElem?_cons_succ, bind_ok, List.length_cons, List.length_nil, Nat.reduceAdd, if_true, sm, P]
      rw [u]
      rfl)
  subst hw h1
  rw [List.nil_append] at e
  have i : iS (eV 0) [some (.v (tD t)), some (.v (qD g)), some (.v (qD (Lf g []))), none, none, none, none] w' = .ok (t.map nD) w' := rfl
  rw [e0, u_sSeq, s1, seqK_nx, u_sSeq, u_sFor, i, bindS_ok, e, seqK_nx]
  rfl
end K89

set_option Elab.async false
set_option linter.all false
set_option maxRecDepth 100000
set_option maxHeartbeats 4000000
/-! K89P: all tackles, walked -/
namespace K89
open PySem PySem.Spec L2 DL DG PyProof.Rows PySem.W DM DQ
def edD (p : Ed) : D := .tuple [tD p.1, nD p.2]
def extK (r : List Nat) (l : Nat) : List Ed := (List.range (min l 8)).map fun k => (r ++ [k + 1], l - (k + 1))
theorem ext_eq (most : Nat) (p : Ed) : ext most p = if p.1.length < most then extK p.1 p.2 else [] := rfl
theorem min_ok (l : Nat) : gMin [nD l, .int 8] = some (nD (min l 8)) := by
  show some (PyData.int (if (8 : Int) < (l : Int) then 8 else (l : Int))) = _
  unfold nD
  congr 2
  split <;> omega
section
variable {x0 x1 x2 x3 x4 x7 : Option Sl} {w : Wd} (r : List Nat) (l : Nat)
theorem rng_ok (ρ : Ev) (h : eBw 6 ρ w = .ok (nD l) w) : iR2 (eC (.int 1)) (eBin dAdd (eCall gMin (lC (eBw 6) (lC (eC (.int 8)) lN))) (eC (.int 1))) ρ w = .ok ((List.range (min l 8)).map fun (k : Nat) => PyData.int (1 + (k : Int))) w := by
  have := iR2_ok (fa := eC (.int 1)) (fb := eBin dAdd (eCall gMin (lC (eBw 6) (lC (eC (.int 8)) lN))) (eC (.int 1))) (ρ := ρ) (w := w) (w1 := w) (w2 := w) (i := 1) (j := ((min l 8 : Nat) : Int) + 1) rfl (by
    simp only [u_eBin, u_eCall, u_lC, u_lN, h, bind_ok, u_eC, min_ok, of_some]
    rfl) (by omega) (by omega) (by omega) (by omega)
  rw [this]
  have e : (((min l 8 : Nat) : Int) + 1 - 1).toNat = min l 8 := by omega
  rw [e]
theorem comp_a (hr : r.length ≤ 1000) : oLc (iR2 (eC (.int 1)) (eBin dAdd (eCall gMin (lC (eBw 6) (lC (eC (.int 8)) lN))) (eC (.int 1)))) (gN 7) oYes e_tackles_of_0 [7] [x0, x1, x2, x3, x4, some (.v (tD r)), some (.v (nD l)), x7] w = .ok ((extK r l).map edD) w := by
  unfold extK
  refine oLc_mapT (fun (k : Nat) => PyData.int (1 + (k : Int))) edD (fun k => (r ++ [k + 1], l - (k + 1))) (rng_ok l _ rfl) (by rw [List.length_range, big]; omega) fun k hk => ⟨[x0, x1, x2, x3, x4, some (.v (tD r)), some (.v (nD l)), some (.v (.int (1 + (k : Int))))], rfl, ?_⟩
  have hk : k < min l 8 := List.mem_range.mp hk
  unfold e_tackles_of_0
  have e1 : dSub (nD l) (.int (1 + (k : Int))) = some (nD (l - (k + 1))) := by
    show some (PyData.int ((l : Int) - (1 + (k : Int)))) = _
    unfold nD
    congr 2
    omega
  have e2 : r.length + 1 ≤ 16777216 := by omega
  have sq : seqOf (tD r) = some (r.map nD) := rfl
  simp [e1, big, e2, sq, edD, tD, nD]
  omega
theorem comp_b (hr : r.length ≤ 1000) : oLc (iR2 (eC (.int 1)) (eBin dAdd (eCall gMin (lC (eBw 6) (lC (eC (.int 8)) lN))) (eC (.int 1)))) (gN 7) oYes e__law_tackles_0 [7] [x0, x1, x2, x3, x4, some (.v (tD r)), some (.v (nD l)), x7] w = .ok ((extK r l).map edD) w := by
  unfold extK
  refine oLc_mapT (fun (k : Nat) => PyData.int (1 + (k : Int))) edD (fun k => (r ++ [k + 1], l - (k + 1))) (rng_ok l _ rfl) (by rw [List.length_range, big]; omega) fun k hk => ⟨[x0, x1, x2, x3, x4, some (.v (tD r)), some (.v (nD l)), some (.v (.int (1 + (k : Int))))], rfl, ?_⟩
  have hk : k < min l 8 := List.mem_range.mp hk
  unfold e__law_tackles_0
  have e1 : dSub (nD l) (.int (1 + (k : Int))) = some (nD (l - (k + 1))) := by
    show some (PyData.int ((l : Int) - (1 + (k : Int)))) = _
    unfold nD
    congr 2
    omega
  have e2 : r.length + 1 ≤ 16777216 := by omega
  have e3 : dAdd (tD r) (.tuple [.int (1 + (k : Int))]) = some (tD (r ++ [k + 1])) := by
    unfold tD dAdd
    dsimp only
    rw [if_pos (by rw [List.length_map, big]; simp; omega), List.map_append]
    have : nD (k + 1) = .int (1 + (k : Int)) := by unfold nD; congr 1; omega
    simp [this]
  simp [e1, e3, big, edD]
end
theorem extK_len (r : List Nat) (l : Nat) : (extK r l).length ≤ 8 := by unfold extK; rw [List.length_map, List.length_range]; omega
theorem ext_len (most : Nat) (p : Ed) : (ext most p).length ≤ 8 := by
  rw [ext_eq]; split
  · exact extK_len _ _
  · exact Nat.zero_le _
theorem flat_len (most : Nat) (l : List Ed) : (l.flatMap (ext most)).length ≤ 8 * l.length := by
  induction l with
  | nil => exact Nat.zero_le _
  | cons p l ih =>
    have := ext_len most p
    rw [List.flatMap_cons, List.length_append, List.length_cons]; omega
theorem done_snoc (l : List Ed) (p : Ed) : done (l ++ [p]) = done l ++ if p.2 = 0 then [p.1] else [] := by
  unfold done
  rw [List.filter_append, List.map_append]
  by_cases h : p.2 = 0 <;> simp [h]
theorem done_len (l : List Ed) : (done l).length ≤ l.length := by
  unfold done; rw [List.length_map]; exact List.length_filter_le _ _
theorem pow8 {k : Nat} (h : k ≤ 5) : 8 ^ k ≤ 32768 := Nat.le_trans (Nat.pow_le_pow_right (by decide) h) (by decide)
section
variable {most rolls : Nat} {w : Wd} {X0 : Option Sl} {x3 : Option Sl}
abbrev EN (X0 : Option Sl) (most : Nat) (f : Option Sl) (e : Option Sl) (la y5 y6 y7 : Option Sl) : Ev := [X0, some (.v (nD most)), f, e, la, y5, y6, y7]
def olT (ts : List (List Nat)) : Option Sl := some (.ol (ts.map tD))
def vT (ts : List (List Nat)) : Option Sl := some (.v (.list (ts.map tD)))
def olE (es : List Ed) : Option Sl := some (.ol (es.map edD))
def vE (es : List Ed) : Option Sl := some (.v (.list (es.map edD)))
theorem step_a (ts : List (List Nat)) (es : List Ed) (p : Ed) (hp : p.1.length ≤ 1000) (h1 : ts.length ≤ 100000) (h2 : es.length ≤ 1000000) (y7 : Option Sl) : ∃ y7', b_tackles_of_1 (EN X0 most (olT ts) x3 (olE es) (some (.v (tD p.1))) (some (.v (nD p.2))) y7) w = .nx (EN X0 most (olT (ts ++ if p.2 = 0 then [p.1] else [])) x3 (olE (es ++ ext most p)) (some (.v (tD p.1))) (some (.v (nD p.2))) y7') w := by
  refine ⟨y7, ?_⟩
  unfold b_tackles_of_1
  have t1 : tCm dEq (eBw 6) (eC (.int 0)) (EN X0 most (olT ts) x3 (olE es) (some (.v (tD p.1))) (some (.v (nD p.2))) y7) w = .ok (decide (p.2 = 0)) w := by
    rw [u_tCm]
    simp only [u_eBw, List.getElem?_cons_zero, List.getElem?_cons_succ, bind_ok, u_eC, dEq_nat0, Option.bind_some, u_bOfb, of_some]
  rw [u_sIf, t1, bindS_ok]
  by_cases q : p.2 = 0
  · rw [decide_eq_true q, if_pos rfl, if_pos q]
    have : ext most p = [] := by rw [ext_eq, q]; unfold extK; simp
    rw [this, List.append_nil]
    have hl : ts.length < 16777216 := by omega
    simp [sApp, olT, big, hl]
  · rw [decide_eq_false q, if_neg (by decide), if_neg q, List.append_nil]
    have t2 : tCm dLt (eCall gLen (lC (eBw 5) lN)) (eBw 1) (EN X0 most (olT ts) x3 (olE es) (some (.v (tD p.1))) (some (.v (nD p.2))) y7) w = .ok (decide (p.1.length < most)) w := by
      have g : gLen [tD p.1] = some (nD p.1.length) := by unfold tD; rw [u_lenT, List.length_map]; rfl
      simp only [u_tCm, u_eCall, u_lC, u_lN, u_eBw, List.getElem?_cons_zero, List.getElem?_cons_succ, bind_ok, g, of_some, DQ.ltN, Option.bind_some, u_bOfb]
    rw [u_sIf, t2, bindS_ok, ext_eq]
    by_cases c : p.1.length < most
    · rw [decide_eq_true c, if_pos rfl, if_pos c]
      have e := comp_a (x0 := X0) (x1 := some (.v (nD most))) (x2 := olT ts) (x3 := x3) (x4 := olE es) (x7 := y7) (w := w) p.1 p.2 hp
      unfold sExt
      have v4 : (EN X0 most (olT ts) x3 (olE es) (some (.v (tD p.1))) (some (.v (nD p.2))) y7)[4]? = some (some (.ol (es.map edD))) := rfl
      rw [v4]
      dsimp only
      rw [u_eFz, e, bind_ok, bindS_ok]
      dsimp only
      have := extK_len p.1 p.2
      rw [if_pos (by rw [List.length_map, List.length_map, big]; omega), ← List.map_append]
      rfl
    · rw [decide_eq_false c, if_neg (by decide), if_neg c, List.append_nil]
      rfl
theorem s_tack (hm : most ≤ 4) : ∀ (j k n : Nat) (y4 y5 y6 y7 : Option Sl), k + j = most + 1 → j < n → ∃ z3 z4 z5 z6 z7, whl (tCm dGt (eCall gLen (lC (eBw 3) lN)) (eC (.int 0))) b_tackles_of_2 n (EN X0 most (olT (T most rolls k)) (vE (edges most rolls k)) y4 y5 y6 y7) w = .nx (EN X0 most (olT (TT most rolls)) z3 z4 z5 z6 z7) w
  | j, k, 0, _, _, _, _, _, h => absurd h (by omega)
  | j, k, n + 1, y4, y5, y6, y7, hk, hn => by
    unfold whl
    have t : tCm dGt (eCall gLen (lC (eBw 3) lN)) (eC (.int 0)) (EN X0 most (olT (T most rolls k)) (vE (edges most rolls k)) y4 y5 y6 y7) w = .ok (decide ((0 : Int) < ((edges most rolls k).length : Int))) w := by
      simp [vE]
    rw [t, bindS_ok]
    cases he : edges most rolls k with
    | nil =>
      rw [if_neg (by decide)]
      have hTT := (T_same he j).2
      rw [hk] at hTT
      have hTT : T most rolls k = TT most rolls := hTT.symm
      rw [hTT]
      exact ⟨_, _, _, _, _, rfl⟩
    | cons e0 es0 =>
      have hpos : decide ((0 : Int) < ((e0 :: es0).length : Int)) = true := decide_eq_true (by simp)
      rw [hpos, if_pos rfl, ← he]
      have hk5 : k ≤ 5 := by omega
      have hel := edge_len most rolls k
      have h8 := pow8 hk5
      have hT := T_len (most := most) (rolls := rolls) hm k hk5
      have hok := edge_ok (most := most) (rolls := rolls) k
      have s1 : sOwn (oLst lN) 4 (EN X0 most (olT (T most rolls k)) (vE (edges most rolls k)) y4 y5 y6 y7) w = .nx (EN X0 most (olT (T most rolls k)) (vE (edges most rolls k)) (olE []) y5 y6 y7) w := by simp [olE]
      obtain ⟨ρ, w', e, hw, z5, z6, z7, h1⟩ := forL_inv (tgt := gT 2 (gsC (gN 5) (gsC (gN 6) gsN))) (body := b_tackles_of_1) edD (fun pre ρ' w' => w' = w ∧ ∃ z5 z6 z7 : Option Sl, ρ' = EN X0 most (olT (T most rolls k ++ done pre)) (vE (edges most rolls k)) (olE (pre.flatMap (ext most))) z5 z6 z7) (edges most rolls k) [] (EN X0 most (olT (T most rolls k)) (vE (edges most rolls k)) (olE []) y5 y6 y7) w
        ⟨rfl, y5, y6, y7, by simp [done]⟩
        (fun p x q ρ' w' hq ⟨hw, z5, z6, z7, h1⟩ => by
          subst hw h1
          rw [List.nil_append] at hq
          have hpl : p.length ≤ 32768 := by
            have := congrArg List.length hq
            simp at this
            omega
          have hx := hok x (by rw [hq]; simp)
          have d1 := done_len p
          have d2 := flat_len most p
          obtain ⟨y7', e⟩ := step_a (X0 := X0) (most := most) (x3 := vE (edges most rolls k)) (w := w') (T most rolls k ++ done p) (p.flatMap (ext most)) x (by have := hx.len; omega) (by rw [List.length_append]; omega) (by omega) z7
          refine ⟨_, _, w', rfl, .inl e, rfl, some (.v (tD x.1)), some (.v (nD x.2)), y7', ?_⟩
          rw [done_snoc, List.flatMap_append, List.append_assoc]
          simp)
      rw [List.nil_append] at h1
      rw [h1, hw] at e
      have i : iS (eV 3) (EN X0 most (olT (T most rolls k)) (vE (edges most rolls k)) (olE []) y5 y6 y7) w = .ok ((edges most rolls k).map edD) w := rfl
      have b : b_tackles_of_2 (EN X0 most (olT (T most rolls k)) (vE (edges most rolls k)) y4 y5 y6 y7) w = .nx (EN X0 most (olT (T most rolls (k + 1))) (vE (edges most rolls (k + 1))) (vE (edges most rolls (k + 1))) z5 z6 z7) w := by
        unfold b_tackles_of_2
        rw [u_sSeq, s1, seqK_nx, u_sSeq, u_sFor, i, bindS_ok, e, seqK_nx]
        rfl
      rw [b]
      dsimp only
      have hj : 0 < j := by
        rcases Nat.eq_zero_or_pos j with z | z
        · subst z
          have hk' : k = most + 1 := by omega
          have := edge_end most rolls 0
          rw [Nat.add_zero, ← hk', he] at this
          cases this
        · exact z
      exact s_tack hm (j - 1) (k + 1) n _ _ _ _ (by omega) (by omega)
theorem s_tackles_of (hm : most ≤ 4) : m_tackles_of [.v (nD rolls), .v (nD most)] w = .ok (.list ((TT most rolls).map tD)) w := by
  unfold m_tackles_of
  rw [fnD_eq]
  unfold f_tackles_of
  have e0 : ent 2 8 [.v (nD rolls), .v (nD most)] = [some (.v (nD rolls)), some (.v (nD most)), none, none, none, none, none, none] := rfl
  have s1 : sParO 2 3 (oLst lN) (eFz (oLst (lC (eTup (lC (eTup lN) (lC (eV 0) lN))) lN))) [some (.v (nD rolls)), some (.v (nD most)), none, none, none, none, none, none] w = .nx (EN (some (.v (nD rolls))) most (olT (T most rolls 0)) (vE (edges most rolls 0)) none none none none) w := by
    unfold sParO
    simp [big, olT, vE, T, edges, edD, tD]
  obtain ⟨z3, z4, z5, z6, z7, e⟩ := s_tack (X0 := some (.v (nD rolls))) (rolls := rolls) (w := w) hm (most + 1) 0 16 none none none none (by omega) (by omega)
  rw [e0, u_sSeq, s1, seqK_nx, u_sSeq, e, seqK_nx]
  rfl
theorem step_b (es : List Ed) (p : Ed) (hp : p.1.length ≤ 1000) (h2 : es.length ≤ 1000000) (f y7 : Option Sl) : b__law_tackles_1 (EN X0 most f x3 (vE es) (some (.v (tD p.1))) (some (.v (nD p.2))) y7) w = .nx (EN X0 most f x3 (vE (es ++ ext most p)) (some (.v (tD p.1))) (some (.v (nD p.2))) y7) w := by
  unfold b__law_tackles_1
  have t2 : tCm dLt (eCall gLen (lC (eBw 5) lN)) (eBw 1) (EN X0 most f x3 (vE es) (some (.v (tD p.1))) (some (.v (nD p.2))) y7) w = .ok (decide (p.1.length < most)) w := by
    have g : gLen [tD p.1] = some (nD p.1.length) := by unfold tD; rw [u_lenT, List.length_map]; rfl
    simp only [u_tCm, u_eCall, u_lC, u_lN, u_eBw, List.getElem?_cons_zero, List.getElem?_cons_succ, bind_ok, g, of_some, DQ.ltN, Option.bind_some, u_bOfb]
  rw [u_sIf, t2, bindS_ok, ext_eq]
  by_cases c : p.1.length < most
  · rw [decide_eq_true c, if_pos rfl, if_pos c]
    have e := comp_b (x0 := X0) (x1 := some (.v (nD most))) (x2 := f) (x3 := x3) (x4 := vE es) (x7 := y7) (w := w) p.1 p.2 hp
    have v4 : eBw 4 (EN X0 most f x3 (vE es) (some (.v (tD p.1))) (some (.v (nD p.2))) y7) w = .ok (.list (es.map edD)) w := rfl
    have a : dAdd (.list (es.map edD)) (.list ((extK p.1 p.2).map edD)) = some (.list ((es ++ extK p.1 p.2).map edD)) := by
      have := extK_len p.1 p.2
      unfold dAdd
      dsimp only
      rw [if_pos (by rw [List.length_map, List.length_map, big]; omega), List.map_append]
    rw [u_sAsg, u_eBin, v4, bind_ok, u_eFz, e, bind_ok, bind_ok, a, of_some, bindS_ok]
    rfl
  · rw [decide_eq_false c, if_neg (by decide), if_neg c, List.append_nil]
    rfl
theorem s_ltack (hm : most ≤ 4) : ∀ (j k n : Nat) (y4 y5 y6 y7 : Option Sl), k + j = most + 1 → j < n → ∃ z3 z4 z5 z6 z7, whl (tCm dNe (eBw 3) (eFz (oLst lN))) b__law_tackles_2 n (EN X0 most (vT (T most rolls k)) (vE (edges most rolls k)) y4 y5 y6 y7) w = .nx (EN X0 most (vT (TT most rolls)) z3 z4 z5 z6 z7) w
  | j, k, 0, _, _, _, _, _, h => absurd h (by omega)
  | j, k, n + 1, y4, y5, y6, y7, hk, hn => by
    unfold whl
    have pl : ∀ es : List Ed, PyData.plainAll (es.map edD) = true := fun es => by
      have pt : ∀ t : List Nat, PyData.plainAll (t.map nD) = true := fun t => by
        induction t with
        | nil => rfl
        | cons x t ih => rw [List.map_cons, PyData.plainAll, ih]; rfl
      induction es with
      | nil => rfl
      | cons p es ih =>
        have : (edD p).plain = true := by unfold edD tD; simp [PyData.plain, PyData.plainAll, pt, nD]
        rw [List.map_cons, PyData.plainAll, this, ih]; rfl
    have t : tCm dNe (eBw 3) (eFz (oLst lN)) (EN X0 most (vT (T most rolls k)) (vE (edges most rolls k)) y4 y5 y6 y7) w = .ok (!(edges most rolls k).isEmpty) w := by
      have v3 : eBw 3 (EN X0 most (vT (T most rolls k)) (vE (edges most rolls k)) y4 y5 y6 y7) w = .ok (.list ((edges most rolls k).map edD)) w := rfl
      have e2 : eFz (oLst lN) (EN X0 most (vT (T most rolls k)) (vE (edges most rolls k)) y4 y5 y6 y7) w = .ok (.list []) w := by simp
      rw [u_tCm, v3, bind_ok, e2, bind_ok, dNe_nil (pl _)]
      cases edges most rolls k <;> rfl
    rw [t, bindS_ok]
    cases he : edges most rolls k with
    | nil =>
      rw [if_neg (by decide)]
      have hTT := (T_same he j).2
      rw [hk] at hTT
      have hTT : T most rolls k = TT most rolls := hTT.symm
      rw [hTT]
      exact ⟨_, _, _, _, _, rfl⟩
    | cons e0 es0 =>
      rw [if_pos (by rfl), ← he]
      have hk5 : k ≤ 5 := by omega
      have hel := edge_len most rolls k
      have h8 := pow8 hk5
      have hT := T_len (most := most) (rolls := rolls) hm k hk5
      have hok := edge_ok (most := most) (rolls := rolls) k
      have c := oLc_map (fi := iS (eV 3)) (tgt := gT 2 (gsC (gN 5) (gsC (gN 6) gsN))) (tt := tCm dEq (eBw 6) (eC (.int 0))) (fe := eV 5) (vs := [5, 6]) (ρ := EN X0 most (vT (T most rolls k)) (vE (edges most rolls k)) y4 y5 y6 y7) (w := w) (w1 := w) (xs := edges most rolls k) edD tD (fun p => decide (p.2 = 0)) (fun p => p.1) rfl (by rw [big]; omega) fun p hp =>
        ⟨EN X0 most (vT (T most rolls k)) (vE (edges most rolls k)) y4 (some (.v (tD p.1))) (some (.v (nD p.2))) y7, rfl, by
          rw [u_tCm]
          simp only [u_eBw, List.getElem?_cons_zero, List.getElem?_cons_succ, bind_ok, u_eC, dEq_nat0, Option.bind_some, u_bOfb, of_some], fun _ => rfl⟩
      have hd := done_len (edges most rolls k)
      have c : oLc (iS (eV 3)) (gT 2 (gsC (gN 5) (gsC (gN 6) gsN))) (tCm dEq (eBw 6) (eC (.int 0))) (eV 5) [5, 6] (EN X0 most (vT (T most rolls k)) (vE (edges most rolls k)) y4 y5 y6 y7) w = .ok ((done (edges most rolls k)).map tD) w := c
      have a : dAdd (.list ((T most rolls k).map tD)) (.list ((done (edges most rolls k)).map tD)) = some (.list ((T most rolls (k + 1)).map tD)) := by
        unfold dAdd
        dsimp only
        rw [if_pos (by rw [List.length_map, List.length_map, big]; omega), ← List.map_append]
        rfl
      have s0 : sAsg (eBin dAdd (eBw 2) (eFz (oLc (iS (eV 3)) (gT 2 (gsC (gN 5) (gsC (gN 6) gsN))) (tCm dEq (eBw 6) (eC (.int 0))) (eV 5) [5, 6]))) (gN 2) (EN X0 most (vT (T most rolls k)) (vE (edges most rolls k)) y4 y5 y6 y7) w = .nx (EN X0 most (vT (T most rolls (k + 1))) (vE (edges most rolls k)) y4 y5 y6 y7) w := by
        have v2 : eBw 2 (EN X0 most (vT (T most rolls k)) (vE (edges most rolls k)) y4 y5 y6 y7) w = .ok (.list ((T most rolls k).map tD)) w := rfl
        rw [u_sAsg, u_eBin, v2, bind_ok, u_eFz, c, bind_ok, bind_ok, a, of_some, bindS_ok]
        rfl
      have s1 : sAsg (eFz (oLst lN)) (gN 4) (EN X0 most (vT (T most rolls (k + 1))) (vE (edges most rolls k)) y4 y5 y6 y7) w = .nx (EN X0 most (vT (T most rolls (k + 1))) (vE (edges most rolls k)) (vE []) y5 y6 y7) w := by simp [vE]
      obtain ⟨ρ, w', e, hw, z5, z6, z7, h1⟩ := forL_inv (tgt := gT 2 (gsC (gN 5) (gsC (gN 6) gsN))) (body := b__law_tackles_1) edD (fun pre ρ' w' => w' = w ∧ ∃ z5 z6 z7 : Option Sl, ρ' = EN X0 most (vT (T most rolls (k + 1))) (vE (edges most rolls k)) (vE (pre.flatMap (ext most))) z5 z6 z7) (edges most rolls k) [] (EN X0 most (vT (T most rolls (k + 1))) (vE (edges most rolls k)) (vE []) y5 y6 y7) w
        ⟨rfl, y5, y6, y7, rfl⟩
        (fun p x q ρ' w' hq ⟨hw, z5, z6, z7, h1⟩ => by
          subst hw h1
          rw [List.nil_append] at hq
          have hpl : p.length ≤ 32768 := by
            have := congrArg List.length hq
            simp at this
            omega
          have hx := hok x (by rw [hq]; simp)
          have d2 := flat_len most p
          have e := step_b (X0 := X0) (most := most) (x3 := vE (edges most rolls k)) (w := w') (p.flatMap (ext most)) x (by have := hx.len; omega) (by omega) (vT (T most rolls (k + 1))) z7
          refine ⟨_, _, w', rfl, .inl e, rfl, some (.v (tD x.1)), some (.v (nD x.2)), z7, ?_⟩
          rw [List.flatMap_append]
          simp)
      rw [List.nil_append] at h1
      rw [h1, hw] at e
      have i : iS (eV 3) (EN X0 most (vT (T most rolls (k + 1))) (vE (edges most rolls k)) (vE []) y5 y6 y7) w = .ok ((edges most rolls k).map edD) w := rfl
      have b : b__law_tackles_2 (EN X0 most (vT (T most rolls k)) (vE (edges most rolls k)) y4 y5 y6 y7) w = .nx (EN X0 most (vT (T most rolls (k + 1))) (vE (edges most rolls (k + 1))) (vE (edges most rolls (k + 1))) z5 z6 z7) w := by
        unfold b__law_tackles_2
        rw [u_sSeq, s0, seqK_nx, u_sSeq, s1, seqK_nx, u_sSeq, u_sFor, i, bindS_ok, e, seqK_nx]
        rfl
      rw [b]
      dsimp only
      have hj : 0 < j := by
        rcases Nat.eq_zero_or_pos j with z | z
        · subst z
          have hk' : k = most + 1 := by omega
          have := edge_end most rolls 0
          rw [Nat.add_zero, ← hk', he] at this
          cases this
        · exact z
      exact s_ltack hm (j - 1) (k + 1) n _ _ _ _ (by omega) (by omega)
theorem s_ltackles (hm : most ≤ 4) : m__law_tackles [.v (nD rolls), .v (nD most)] w = .ok (.list ((TT most rolls).map tD)) w := by
  unfold m__law_tackles
  rw [fnD_eq]
  unfold f__law_tackles
  have e0 : ent 2 8 [.v (nD rolls), .v (nD most)] = [some (.v (nD rolls)), some (.v (nD most)), none, none, none, none, none, none] := rfl
  have s1 : sPar 2 3 (lC (eFz (oLst lN)) (lC (eFz (oLst (lC (eTup (lC (eTup lN) (lC (eV 0) lN))) lN))) lN)) [some (.v (nD rolls)), some (.v (nD most)), none, none, none, none, none, none] w = .nx (EN (some (.v (nD rolls))) most (vT (T most rolls 0)) (vE (edges most rolls 0)) none none none none) w := by
    unfold sPar
    simp [big, vT, vE, T, edges, edD, tD]
  obtain ⟨z3, z4, z5, z6, z7, e⟩ := s_ltack (X0 := some (.v (nD rolls))) (rolls := rolls) (w := w) hm (most + 1) 0 16 none none none none (by omega) (by omega)
  rw [e0, u_sSeq, s1, seqK_nx, u_sSeq, e, seqK_nx]
  rfl
end
end K89

set_option Elab.async false
set_option linter.all false
set_option maxRecDepth 100000
set_option maxHeartbeats 4000000
/-! K89Q: the best, the fewest, what is told -/
namespace K89
open PySem PySem.Spec L2 DL DG PyProof.Rows PySem.W DM DQ
def kD (t : List Nat) : D := .tuple [nD t.length, tD t]
def lex (a b : List Nat) : Bool := dataLt (kD a) (kD b)
theorem tD_tR (t : List Nat) : tD t = tR (t.map fun n : Nat => (n : Int)) := by
  unfold tD tR
  rw [List.map_map]
  rfl
theorem lt_kD (a b : List Nat) : dLtT (kD a) (kD b) = some (.bool (lex a b)) := by
  unfold dLtT
  rw [if_pos]
  · rfl
  unfold ltOk
  have h1 : ∀ t, (kD t).plain = true := fun t => by unfold kD; rw [tD_tR]; simp [PyData.plain, PyData.plainAll, nD, plain_tR]
  have h2 : ∀ t, (kD t).depth = 2 := fun t => by unfold kD; rw [tD_tR]; simp [PyData.depth, PyData.depthAll, nD, depth_tR]
  have h3 : alike (kD a) (kD b) = true := by
    unfold kD
    rw [tD_tR, tD_tR, alike, alikeAll, alikeAll, alike_tR]
    simp [nD, alike, alikeAll]
  have h4 : isNon (kD a) = false := rfl
  rw [h1, h1, h2, h2, h3, h4]
  rfl
theorem is_number_int (v a b : Int) (w : Wd) : m_is_number [.v (.int v), .v (.int a), .v (.int b)] w = .ok (.bool (decide (a ≤ v) && decide (v ≤ b))) w := by
  unfold m_is_number
  rw [fnD_eq]
  have e0 : ent 3 3 [.v (.int v), .v (.int a), .v (.int b)] = [some (.v (.int v)), some (.v (.int a)), some (.v (.int b))] := rfl
  have h1 : eIs "int" (eBw 0) [some (.v (.int v)), some (.v (.int a)), some (.v (.int b))] w = .ok (.bool true) w := rfl
  have h2 : eNo (eIs "bool" (eBw 0)) [some (.v (.int v)), some (.v (.int a)), some (.v (.int b))] w = .ok (.bool true) w := rfl
  have h3 : eChain dLe dLe (eBw 1) (eBw 0) (eBw 2) [some (.v (.int v)), some (.v (.int a)), some (.v (.int b))] w = .ok (.bool (decide (a ≤ v) && decide (v ≤ b))) w := by
    unfold eChain
    simp only [u_eBw, List.getElem?_cons_zero, List.getElem?_cons_succ, bind_ok, u_leI]
    by_cases q : a ≤ v
    · rw [decide_eq_true q]; simp
    · rw [decide_eq_false q]; simp
  unfold f_is_number
  rw [e0, u_sRet]
  unfold eAn
  rw [h1, bind_ok, u_truB]
  dsimp only
  rw [h2, bind_ok, u_truB]
  dsimp only
  rw [h3]
  rfl
section
variable {d : Nat} {g : Rat} (hg : Sz d g) (hz : d ≤ 16) {w : Wd}
include hg hz
theorem s_is_better (a b : List Nat) (ha : ∀ x ∈ a, x ≤ 8) (hb : ∀ x ∈ b, x ≤ 8) (la : a.length * (64 * d + 17) ≤ 3600) (lb : b.length * (64 * d + 17) ≤ 3600) : m_is_better [.v (qD g), .v (tD a), .v (tD b)] w = .ok (.bool (better lex g a b)) w := by
  unfold m_is_better
  rw [fnD_eq]
  unfold f_is_better
  have e0 : ent 3 5 [.v (qD g), .v (tD a), .v (tD b)] = [some (.v (qD g)), some (.v (tD a)), some (.v (tD b)), none, none] := rfl
  have f1 := s_lifts hg a ha hz la w
  have f2 := s_lifts hg b hb hz lb w
  have s1 : sPar 3 4 (lC (eCallF 2 m_lifts (aCons (eV 1) (aCons (eV 0) aNil))) (lC (eCallF 2 m_lifts (aCons (eV 2) (aCons (eV 0) aNil))) lN)) [some (.v (qD g)), some (.v (tD a)), some (.v (tD b)), none, none] w = .nx [some (.v (qD g)), some (.v (tD a)), some (.v (tD b)), some (.v (qD (Lf g a))), some (.v (qD (Lf g b)))] w := by
    unfold sPar
    simp [f1, f2]
  have l := s_less w ((sz_Lf hg b hb).mono (show b.length * (64 * d + 17) + 1 ≤ 4000 by omega)) ((sz_Lf hg a ha).mono (show a.length * (64 * d + 17) + 1 ≤ 4000 by omega)) (by decide)
  rw [e0, u_sSeq, s1, seqK_nx, u_sSeq]
  have t1 : tCm dNe (eBw 3) (eBw 4) [some (.v (qD g)), some (.v (tD a)), some (.v (tD b)), some (.v (qD (Lf g a))), some (.v (qD (Lf g b)))] w = .ok (!decide (Lf g a = Lf g b)) w := by
    simp only [u_tCm, u_eBw, List.getElem?_cons_zero, List.getElem?_cons_succ, bind_ok, dNe_qD, Option.bind_some, u_bOfb, of_some]
  rw [u_sIf, t1, bindS_ok]
  unfold better
  by_cases q : Lf g a = Lf g b
  · rw [decide_eq_true q, if_neg (by decide), u_sNil, seqK_nx, if_pos q]
    have ga : ∀ t : List Nat, gLen [tD t] = some (nD t.length) := fun t => by unfold tD; rw [u_lenT, List.length_map]; rfl
    have ee : dLtT (.tuple [nD a.length, tD a]) (.tuple [nD b.length, tD b]) = some (.bool (lex a b)) := lt_kD a b
    simp only [u_sRet, u_eBin, u_eTup, u_lC, u_lN, u_eCall, u_eBw, u_eV, List.getElem?_cons_zero, List.getElem?_cons_succ, bind_ok, ga, of_some, List.length_cons, List.length_nil, Nat.reduceAdd, big, Nat.reduceLeDiff, if_true, ee, bindS_ok, fnR_rt]
  · rw [decide_eq_false q, if_pos (by decide), if_neg q]
    simp only [u_sRet, u_eCallF, u_aCons, u_aNil, u_eV, List.getElem?_cons_zero, List.getElem?_cons_succ, bind_ok, List.length_cons, List.length_nil, Nat.reduceAdd, if_true, l, bindS_ok, seqK_rt, fnR_rt]
def optD : Option (List Nat) → D
  | none => .none
  | some t => tD t
theorem s_best_tackle (rolls most : Nat) (h1 : 1 ≤ rolls ∧ rolls ≤ 10) (h2 : 1 ≤ most ∧ most ≤ 4) (hl : most * (64 * d + 17) ≤ 3600) : m_best_tackle [.v (nD rolls), .v (nD most), .v (qD g)] w = match best lex g (TT most rolls) with | some b => .ok (tD b) w | none => .exc "Refused" w := by
  unfold m_best_tackle
  rw [fnD_eq]
  unfold f_best_tackle
  have e0 : ent 3 5 [.v (nD rolls), .v (nD most), .v (qD g)] = [some (.v (nD rolls)), some (.v (nD most)), some (.v (qD g)), none, none] := rfl
  have n1 : m_is_number [.v (nD rolls), .v (.int 1), .v (.int 10)] w = .ok (.bool true) w := by
    have := is_number_int (rolls : Int) 1 10 w
    rw [decide_eq_true (by omega), decide_eq_true (by omega)] at this
    exact this
  have n2 : m_is_number [.v (nD most), .v (.int 1), .v (.int 4)] w = .ok (.bool true) w := by
    have := is_number_int (most : Int) 1 4 w
    rw [decide_eq_true (by omega), decide_eq_true (by omega)] at this
    exact this
  have hmem : ∀ t ∈ TT most rolls, (∀ x ∈ t, x ≤ 8) ∧ t.length * (64 * d + 17) ≤ 3600 := fun t ht => by
    obtain ⟨a, b, _⟩ := mem_TT.mp ht
    exact ⟨fun x hx => (b x hx).2, Nat.le_trans (Nat.mul_le_mul_right _ a) hl⟩
  obtain ⟨ρ, w', e, hw, x, h5⟩ := forL_inv (tgt := gN 4) (body := b_best_tackle_0) tD (fun pre ρ' w' => w' = w ∧ ∃ x : Option Sl, ρ' = [some (.v (nD rolls)), some (.v (nD most)), some (.v (qD g)), some (.v (optD (best lex g pre))), x]) (TT most rolls) [] [some (.v (nD rolls)), some (.v (nD most)), some (.v (qD g)), some (.v .none), none] w ⟨rfl, none, rfl⟩
    (fun p t q ρ' w' hq ⟨hw, x, h5⟩ => by
      subst hw h5
      rw [List.nil_append] at hq
      obtain ⟨ht1, ht2⟩ := hmem t (by rw [hq]; simp)
      refine ⟨_, [some (.v (nD rolls)), some (.v (nD most)), some (.v (qD g)), some (.v (optD (best lex g (p ++ [t])))), some (.v (tD t))], w', rfl, .inl ?_, rfl, _, rfl⟩
      rw [best_snoc]
      unfold b_best_tackle_0
      cases hb : best lex g p with
      | none =>
        simp [optD, pick, DL.isNon]
      | some c =>
        have hc := ((best_spec lex g p).2 c hb).1
        obtain ⟨hc1, hc2⟩ := hmem c (by rw [hq]; simp [hc])
        have ib := s_is_better hg hz (w := w') t c ht1 hc1 ht2 hc2
        have nn : DL.isNon (tD c) = false := rfl
        cases hbt : better lex g t c with
        | true =>
          rw [hbt] at ib
          simp [optD, pick, hbt, ib, nn]
        | false =>
          rw [hbt] at ib
          simp [optD, pick, hbt, ib, nn])
  subst hw h5
  rw [List.nil_append] at e
  have i : iS (eCallF 2 m_tackles_of (aCons (eV 0) (aCons (eV 1) aNil))) [some (.v (nD rolls)), some (.v (nD most)), some (.v (qD g)), some (.v .none), none] w' = .ok ((TT most rolls).map tD) w' := by
    have := s_tackles_of (most := most) (rolls := rolls) (w := w') h2.2
    simp [this]
  have s0 : sIf (tOo (tNo (tstV (eCallF 3 m_is_number (aCons (eV 0) (aCons (eC (.int 1)) (aCons (eC (.int 10)) aNil)))))) (tNo (tstV (eCallF 3 m_is_number (aCons (eV 1) (aCons (eC (.int 1)) (aCons (eC (.int 4)) aNil))))))) (sRaise "OutOfRange") sNil [some (.v (nD rolls)), some (.v (nD most)), some (.v (qD g)), none, none] w' = .nx [some (.v (nD rolls)), some (.v (nD most)), some (.v (qD g)), none, none] w' := by
    simp [n1, n2]
  have s1 : sAsg (eC .none) (gN 3) [some (.v (nD rolls)), some (.v (nD most)), some (.v (qD g)), none, none] w' = .nx [some (.v (nD rolls)), some (.v (nD most)), some (.v (qD g)), some (.v .none), none] w' := rfl
  rw [e0, u_sSeq, s0, seqK_nx, u_sSeq, s1, seqK_nx, u_sSeq, u_sFor, i, bindS_ok, e, seqK_nx]
  cases best lex g (TT most rolls) with
  | none => rfl
  | some b => rfl
end
/-! ### the fewest -/
theorem pow_sz {d : Nat} {c : Rat} (hc : Sz d c) (k : Nat) : Sz (d * k + 1) (c ^ k) := sz_pow hc k
theorem s_few {g load : Rat} (hg : Sz 10 g) (hl : Sz 12 load) (w : Wd) : ∀ (n k fuel : Nat), k + (n + 1) = 61 → n + 1 < fuel → ∃ y, whl (tstV (eCallF 2 m_less (aCons (eV 2) (aCons (eV 0) aNil)))) b_fewest_rolls_0 fuel [some (.v (qD load)), some (.v (qD g)), some (.v (qD ((1 + g) ^ k))), some (.v (nD k))] w =
    if k + kf (1 + g) load (n + 1) ((1 + g) ^ k) ≤ 60 then .nx [some (.v (qD load)), some (.v (qD g)), y, some (.v (nD (k + kf (1 + g) load (n + 1) ((1 + g) ^ k))))] w else .exc "TooMuch" w := by
  have hc : Sz 12 (1 + g) := (sz1.add hg).mono (by decide)
  have test : ∀ (k : Nat), k ≤ 61 → tstV (eCallF 2 m_less (aCons (eV 2) (aCons (eV 0) aNil))) [some (.v (qD load)), some (.v (qD g)), some (.v (qD ((1 + g) ^ k))), some (.v (nD k))] w = .ok (decide ((1 + g) ^ k < load)) w := fun k hk => by
    have l := s_less w ((pow_sz hc k).mono (show 12 * k + 1 ≤ 800 by omega)) (hl.mono (by decide)) (by decide)
    simp [l]
  have body : ∀ k : Nat, k < 60 → b_fewest_rolls_0 [some (.v (qD load)), some (.v (qD g)), some (.v (qD ((1 + g) ^ k))), some (.v (nD k))] w = .nx [some (.v (qD load)), some (.v (qD g)), some (.v (qD ((1 + g) ^ (k + 1)))), some (.v (nD (k + 1)))] w := fun k hk => by
    have p := s_plus w sz1 hg (by decide)
    have p : m_plus [.v (.tuple [.int 1, .int 1]), .v (qD g)] w = .ok (qD (1 + g)) w := p
    have t := s_times w (pow_sz hc k) hc (by omega)
    rw [← Rat.pow_succ] at t
    have ne : dEq (nD k) (.int 60) = some (.bool false) := by
      unfold nD; rw [dEq_int, decide_eq_false (by omega)]
    have ad : dIadd (nD k) (.int 1) = some (nD (k + 1)) := rfl
    unfold b_fewest_rolls_0
    simp [ne, p, t, big, sAug, ad]
  intro n
  induction n with
  | zero =>
    intro k fuel hk hf
    obtain ⟨m, rfl⟩ : ∃ m, fuel = m + 1 := ⟨fuel - 1, by omega⟩
    have hk60 : k = 60 := by omega
    subst hk60
    refine ⟨some (.v (qD ((1 + g) ^ 60))), ?_⟩
    unfold whl
    rw [test 60 (by decide), bindS_ok]
    by_cases q : (1 + g) ^ 60 < load
    · rw [decide_eq_true q, if_pos rfl, kf, if_pos q, if_neg (by omega)]
      have eq : dEq (nD 60) (.int 60) = some (.bool true) := by unfold nD; rw [dEq_int]; rfl
      unfold b_fewest_rolls_0
      simp [eq]
    · rw [decide_eq_false q, if_neg (by decide), kf, if_neg q, if_pos (by decide)]
  | succ n ih =>
    intro k fuel hk hf
    obtain ⟨m, rfl⟩ : ∃ m, fuel = m + 1 := ⟨fuel - 1, by omega⟩
    unfold whl
    rw [test k (by omega), bindS_ok]
    by_cases q : (1 + g) ^ k < load
    · rw [decide_eq_true q, if_pos rfl, body k (by omega)]
      dsimp only
      obtain ⟨y, e⟩ := ih (k + 1) m (by omega) (by omega)
      refine ⟨y, ?_⟩
      rw [e]
      have : kf (1 + g) load (n + 1 + 1) ((1 + g) ^ k) = 1 + kf (1 + g) load (n + 1) ((1 + g) ^ (k + 1)) := by
        rw [kf, if_pos q, Rat.pow_succ]
      rw [this, Nat.add_assoc k 1]
    · rw [decide_eq_false q, if_neg (by decide), kf, if_neg q, Nat.add_zero]
      refine ⟨some (.v (qD ((1 + g) ^ k))), ?_⟩
      rw [if_pos (by omega)]
theorem s_fewest {g load : Rat} (hg : Sz 10 g) (hl : Sz 12 load) (w : Wd) : m_fewest_rolls [.v (qD load), .v (qD g)] w = if kf (1 + g) load 61 1 ≤ 60 then .ok (nD (kf (1 + g) load 61 1)) w else .exc "TooMuch" w := by
  unfold m_fewest_rolls
  rw [fnD_eq]
  unfold f_fewest_rolls
  have e0 : ent 2 4 [.v (qD load), .v (qD g)] = [some (.v (qD load)), some (.v (qD g)), none, none] := rfl
  have s1 : sAsg (eTup (lC (eTup (lC (eC (.int 1)) (lC (eC (.int 1)) lN))) (lC (eC (.int 0)) lN))) (gT 2 (gsC (gN 2) (gsC (gN 3) gsN))) [some (.v (qD load)), some (.v (qD g)), none, none] w = .nx [some (.v (qD load)), some (.v (qD g)), some (.v (qD ((1 + g) ^ 0))), some (.v (nD 0))] w := by
    rw [Rat.pow_zero]
    simp [big]
    exact ⟨rfl, rfl⟩
  obtain ⟨y, e⟩ := s_few hg hl w 60 0 64 (by decide) (by decide)
  rw [Rat.pow_zero, Nat.zero_add] at e
  rw [e0, u_sSeq, s1, seqK_nx, u_sSeq, Rat.pow_zero, e]
  split <;> rfl
/-! ### what is told -/
section
variable {d : Nat} {g : Rat} (hg : Sz d g) (hz : d ≤ 16) {w : Wd}
include hg hz in
theorem told_best (rolls most : Nat) (h1 : 1 ≤ rolls ∧ rolls ≤ 10) (h2 : 1 ≤ most ∧ most ≤ 4) (hl : most * (64 * d + 17) ≤ 3600) : m__law_told [.v (.int 0), .v (nD rolls), .v (nD most), .v (qD g)] w = .ok (match best lex g (TT most rolls) with | some b => tD b | none => .str "refused") w := by
  unfold m__law_told
  rw [fnD_eq]
  unfold f__law_told
  have b := s_best_tackle hg hz (w := w) rolls most h1 h2 hl
  have e0 : ent 4 5 [.v (.int 0), .v (nD rolls), .v (nD most), .v (qD g)] = [some (.v (.int 0)), some (.v (nD rolls)), some (.v (nD most)), some (.v (qD g)), none] := rfl
  have z : dEq (.int 0) (.int 0) = some (.bool true) := by rw [dEq_int]; rfl
  rw [e0]
  unfold sTryW
  cases hb : best lex g (TT most rolls) with
  | none =>
    rw [hb] at b
    have : sRet (eIf (tCm dEq (eBw 0) (eC (.int 0))) (eCallF 3 m_best_tackle (aCons (eV 1) (aCons (eV 2) (aCons (eV 3) aNil)))) (eCallF 2 m_fewest_rolls (aCons (eV 1) (aCons (eV 3) aNil)))) [some (.v (.int 0)), some (.v (nD rolls)), some (.v (nD most)), some (.v (qD g)), none] w = .exc "Refused" w := by
      simp [z, b]
    rw [this]
    rfl
  | some t =>
    rw [hb] at b
    have : sRet (eIf (tCm dEq (eBw 0) (eC (.int 0))) (eCallF 3 m_best_tackle (aCons (eV 1) (aCons (eV 2) (aCons (eV 3) aNil)))) (eCallF 2 m_fewest_rolls (aCons (eV 1) (aCons (eV 3) aNil)))) [some (.v (.int 0)), some (.v (nD rolls)), some (.v (nD most)), some (.v (qD g)), none] w = .rt (tD t) w := by
      simp [z, b]
    rw [this]
    rfl
theorem told_range (r m : Int) (gd : D) (h : ¬ (1 ≤ r ∧ r ≤ 10) ∨ ¬ (1 ≤ m ∧ m ≤ 4)) : m__law_told [.v (.int 0), .v (.int r), .v (.int m), .v gd] w = .ok (.str "range") w := by
  unfold m__law_told
  rw [fnD_eq]
  unfold f__law_told
  have e0 : ent 4 5 [.v (.int 0), .v (.int r), .v (.int m), .v gd] = [some (.v (.int 0)), some (.v (.int r)), some (.v (.int m)), some (.v gd), none] := rfl
  have z : dEq (.int 0) (.int 0) = some (.bool true) := by rw [dEq_int]; rfl
  have b : m_best_tackle [.v (.int r), .v (.int m), .v gd] w = .exc "OutOfRange" w := by
    unfold m_best_tackle
    rw [fnD_eq]
    unfold f_best_tackle
    have n1 := is_number_int r 1 10 w
    have n2 := is_number_int m 1 4 w
    have e1 : ent 3 5 [.v (.int r), .v (.int m), .v gd] = [some (.v (.int r)), some (.v (.int m)), some (.v gd), none, none] := rfl
    have t : (tOo (tNo (tstV (eCallF 3 m_is_number (aCons (eV 0) (aCons (eC (.int 1)) (aCons (eC (.int 10)) aNil)))))) (tNo (tstV (eCallF 3 m_is_number (aCons (eV 1) (aCons (eC (.int 1)) (aCons (eC (.int 4)) aNil))))))) [some (.v (.int r)), some (.v (.int m)), some (.v gd), none, none] w = .ok true w := by
      simp only [u_tOo, u_tNo, u_tstV, u_eCallF, u_aCons, u_aNil, u_eV, u_eC, List.getElem?_cons_zero, List.getElem?_cons_succ, bind_ok, List.length_cons, List.length_nil, Nat.reduceAdd, if_true, n1, n2, u_truB, of_some]
      by_cases q : 1 ≤ r ∧ r ≤ 10
      · have q2 := h.resolve_left (fun z => z q)
        rw [decide_eq_true q.1, decide_eq_true q.2]
        have : (decide (1 ≤ m) && decide (m ≤ 4)) = false := by simp; omega
        rw [this]; rfl
      · have : (decide (1 ≤ r) && decide (r ≤ 10)) = false := by simp; omega
        rw [this]; rfl
    rw [e1, u_sSeq, u_sIf, t, bindS_ok, if_pos rfl]
    rfl
  rw [e0]
  unfold sTryW
  have : sRet (eIf (tCm dEq (eBw 0) (eC (.int 0))) (eCallF 3 m_best_tackle (aCons (eV 1) (aCons (eV 2) (aCons (eV 3) aNil)))) (eCallF 2 m_fewest_rolls (aCons (eV 1) (aCons (eV 3) aNil)))) [some (.v (.int 0)), some (.v (.int r)), some (.v (.int m)), some (.v gd), none] w = .exc "OutOfRange" w := by
    simp [z, b]
  rw [this]
  rfl
theorem told_few {load : Rat} (h5 : Sz 10 g) (hl : Sz 12 load) : m__law_told [.v (.int 1), .v (qD load), .v .none, .v (qD g)] w = .ok (if kf (1 + g) load 61 1 ≤ 60 then nD (kf (1 + g) load 61 1) else .str "much") w := by
  unfold m__law_told
  rw [fnD_eq]
  unfold f__law_told
  have b := s_fewest h5 hl w
  have e0 : ent 4 5 [.v (.int 1), .v (qD load), .v .none, .v (qD g)] = [some (.v (.int 1)), some (.v (qD load)), some (.v .none), some (.v (qD g)), none] := rfl
  have z : dEq (.int 1) (.int 0) = some (.bool false) := by rw [dEq_int]; rfl
  rw [e0]
  unfold sTryW
  by_cases q : kf (1 + g) load 61 1 ≤ 60
  · rw [if_pos q] at b ⊢
    have : sRet (eIf (tCm dEq (eBw 0) (eC (.int 0))) (eCallF 3 m_best_tackle (aCons (eV 1) (aCons (eV 2) (aCons (eV 3) aNil)))) (eCallF 2 m_fewest_rolls (aCons (eV 1) (aCons (eV 3) aNil)))) [some (.v (.int 1)), some (.v (qD load)), some (.v .none), some (.v (qD g)), none] w = .rt (nD (kf (1 + g) load 61 1)) w := by
      simp [z, b]
    rw [this]
    rfl
  · rw [if_neg q] at b ⊢
    have : sRet (eIf (tCm dEq (eBw 0) (eC (.int 0))) (eCallF 3 m_best_tackle (aCons (eV 1) (aCons (eV 2) (aCons (eV 3) aNil)))) (eCallF 2 m_fewest_rolls (aCons (eV 1) (aCons (eV 3) aNil)))) [some (.v (.int 1)), some (.v (qD load)), some (.v .none), some (.v (qD g)), none] w = .exc "TooMuch" w := by
      simp [z, b]
    rw [this]
    rfl
end
end K89

set_option Elab.async false
set_option linter.all false
set_option maxRecDepth 100000
set_option maxHeartbeats 4000000
/-! K89R: the law, first part -/
namespace K89
open PySem PySem.Spec L2 DL DG PyProof.Rows PySem.W DM DQ
theorem take {w : Wd} (hw : IntW w) (b : Nat) (hb : 0 < b) : ∃ (z : Nat) (w' : Wd), z < b ∧ IntW w' ∧ m__law_take [.dr, .v (nD b)] w = .ok (nD z) w' := ltake rfl hw b hb
structure GOk (g : Rat) : Prop where
  sz : Sz 5 g
  lo : 0 ≤ g
  hi : g ≤ 1
theorem g_mk {p q : Nat} (h : p ≤ q) (hq : 0 < q) (hq2 : q ≤ 31) : GOk (mkRat (p : Int) q) := by
  have hq1 : (0 : Rat) < (q : Rat) := Rat.natCast_pos.mpr hq
  have h0 : (0 : Rat) ≤ ((p : Int) : Rat) := Rat.intCast_nonneg.mpr (by omega)
  have h3 : ((p : Int) : Rat) ≤ (q : Rat) := by
    have h3 : ((p : Int) : Rat) ≤ ((q : Int) : Rat) := Rat.intCast_le_intCast.mpr (by omega)
    exact h3
  have hr : mkRat (p : Int) q * (q : Rat) = ((p : Int) : Rat) := by
    rw [Rat.mkRat_eq_div]
    grind
  refine ⟨sz_mk (n := 5) (by unfold Bd; omega) (by unfold Bd; omega) hq, ?_, ?_⟩
  · apply Classical.byContradiction
    intro n
    have h5 : 0 < -mkRat (p : Int) q := by grind
    have h6 := Rat.mul_pos h5 hq1
    grind
  · apply Classical.byContradiction
    intro n
    have h5 : 0 < mkRat (p : Int) q - 1 := by grind
    have h6 := Rat.mul_pos h5 hq1
    grind
structure TkOk (t : List Nat) : Prop where
  l1 : 1 ≤ t.length
  l4 : t.length ≤ 4
  ok : ∀ x ∈ t, 1 ≤ x ∧ x ≤ 8
abbrev E (sc : Sl) (x2 x3 x4 x5 x6 x7 x8 x9 x10 x11 x12 x13 x14 x15 x16 x17 x18 : Option Sl) : Ev := [some sc, some .dr, x2, x3, x4, x5, x6, x7, x8, x9, x10, x11, x12, x13, x14, x15, x16, x17, x18, none, none]
variable {sc : Sl}
theorem st0 {w : Wd} (hw : IntW w) : ∃ g w', GOk g ∧ IntW w' ∧ s_law_0 (E sc none none none none none none none none none none none none none none none none none) w = .nx (E sc (some (.v (qD g))) none none none none none none none none none none none none none none none none) w' := by
  obtain ⟨z, w1, hz, hw1, e1⟩ := take hw 2 (by decide)
  have e1 : m__law_take [.dr, .v (.int 2)] w = .ok (nD z) w1 := e1
  obtain ⟨a, w2, ha, hw2, e2⟩ := take hw1 6 (by decide)
  have e2 : m__law_take [.dr, .v (.int 6)] w1 = .ok (nD a) w2 := e2
  obtain ⟨b, w3, hb, hw3, e3⟩ := take hw1 20 (by decide)
  have e3 : m__law_take [.dr, .v (.int 20)] w1 = .ok (nD b) w3 := e3
  have l1 := lpartOk ((a + 1 : Nat) : Int) 6 w2 (by decide) (Bd.mono (n := 5) (by unfold Bd; omega) (by decide)) (Bd.mono (n := 5) (by unfold Bd; omega) (by decide))
  have l1 : m__law_part [.v (.int (1 + (a : Int))), .v (.int 6)] w2 = .ok (qD (mkRat ((a + 1 : Nat) : Int) 6)) w2 := by
    have : (1 + (a : Int)) = ((a + 1 : Nat) : Int) := by omega
    rw [this]; exact l1
  have l2 := lpartOk ((b + 1 : Nat) : Int) 20 w3 (by decide) (Bd.mono (n := 5) (by unfold Bd; omega) (by decide)) (Bd.mono (n := 5) (by unfold Bd; omega) (by decide))
  have l2 : m__law_part [.v (.int (1 + (b : Int))), .v (.int 20)] w3 = .ok (qD (mkRat ((b + 1 : Nat) : Int) 20)) w3 := by
    have : (1 + (b : Int)) = ((b + 1 : Nat) : Int) := by omega
    rw [this]; exact l2
  have a1 : ∀ n : Nat, dAdd (.int 1) (nD n) = some (.int (1 + (n : Int))) := fun _ => rfl
  unfold s_law_0
  by_cases q : z = 0
  · refine ⟨mkRat ((a + 1 : Nat) : Int) 6, w2, g_mk (by omega) (by decide) (by decide), hw2, ?_⟩
    subst q
    have e0 : dEq (nD 0) (.int 0) = some (.bool true) := by rw [dEq_nat0]; rfl
    simp [e1, e0, e2, a1, l1]
  · refine ⟨mkRat ((b + 1 : Nat) : Int) 20, w3, g_mk (by omega) (by decide) (by decide), hw3, ?_⟩
    have e0 : dEq (nD z) (.int 0) = some (.bool false) := by rw [dEq_nat0, decide_eq_false q]
    simp [e1, e0, e3, a1, l2]
theorem st2 {w : Wd} (hw : IntW w) (x2 : Option Sl) : ∃ t w', TkOk t ∧ IntW w' ∧ s_law_2 (E sc x2 none none none none none none none none none none none none none none none none) w = .nx (E sc x2 (some (.v (tD t))) none none none none none none none none none none none none none none none) w' := by
  obtain ⟨n, w1, hn, hw1, e1⟩ := take hw 4 (by decide)
  have e1 : m__law_take [.dr, .v (.int 4)] w = .ok (nD n) w1 := e1
  obtain ⟨ρ, hρ⟩ : ∃ ρ : Ev, ρ = E sc x2 none none none none none none none none none none none none none none none none := ⟨_, rfl⟩
  have r : iR1 (eBin dAdd (eC (.int 1)) (eCallF 2 m__law_take (aSl 1 (aCons (eC (.int 4)) aNil)))) ρ w = .ok ((List.range (n + 1)).map nD) w1 := by
    have := iR1_ok (fa := eBin dAdd (eC (.int 1)) (eCallF 2 m__law_take (aSl 1 (aCons (eC (.int 4)) aNil)))) (ρ := ρ) (w := w) (j := 1 + (n : Int)) (w1 := w1) (by
      rw [hρ]
      simp only [u_eBin, u_eCallF, u_aSl, u_aCons, u_aNil, u_eC, List.getElem?_cons_zero, List.getElem?_cons_succ, bind_ok, List.length_cons, List.length_nil, Nat.reduceAdd, if_true, e1]
      rfl) (by omega) (by omega)
    rw [this]
    have : (1 + (n : Int)).toNat = n + 1 := by omega
    rw [this]
  obtain ⟨ys, w2, e, h1, h2⟩ := oLc_eff (fi := iR1 (eBin dAdd (eC (.int 1)) (eCallF 2 m__law_take (aSl 1 (aCons (eC (.int 4)) aNil))))) (tgt := gN 19) (tt := oYes) (fe := e_law_1) (vs := [19]) (ρ := ρ) (w := w) (w1 := w1) (xs := List.range (n + 1)) nD nD (fun _ y => 1 ≤ y ∧ y ≤ 8) IntW r (by rw [List.length_range, big]; omega) hw1 fun k hk w hw => by
    obtain ⟨z, w3, hz, hw3, e3⟩ := take hw 2 (by decide)
    have e3 : m__law_take [.dr, .v (.int 2)] w = .ok (nD z) w3 := e3
    obtain ⟨b, hb, hb8, ix⟩ : ∃ b : Nat, 0 < b ∧ b ≤ 8 ∧ dIx (.list [.int 2, .int 8]) (nD z) = some (nD b) := by
      match z, hz with
      | 0, _ => exact ⟨2, by decide, by decide, rfl⟩
      | 1, _ => exact ⟨8, by decide, by decide, rfl⟩
    obtain ⟨y, w4, hy, hw4, e4⟩ := take hw3 b hb
    refine ⟨[some sc, some .dr, x2, none, none, none, none, none, none, none, none, none, none, none, none, none, none, none, none, some (.v (nD k)), none], y + 1, w4, by rw [hρ]; rfl, rfl, ?_, hw4, by omega, by omega⟩
    unfold e_law_1
    have a1 : dAdd (.int 1) (nD y) = some (nD (y + 1)) := by
      show some (PyData.int (1 + (y : Int))) = _
      unfold nD; congr 2; omega
    simp [big, e3, ix, e4, a1]
  refine ⟨ys, w2, ⟨by rw [Paired.len h2, List.length_range]; omega, by rw [Paired.len h2, List.length_range]; omega, fun x hx => ?_⟩, h1, ?_⟩
  · obtain ⟨k, _, hk⟩ := Paired.all h2 x hx
    exact hk
  · unfold s_law_2
    rw [← hρ, u_sAsg, u_eCall, u_lC, u_eFz, e, hρ]
    rfl
theorem s_is_tackle {t : List Nat} (h : TkOk t) (w : Wd) : m_is_tackle [.v (tD t)] w = .ok (.bool true) w := by
  unfold m_is_tackle
  rw [fnD_eq]
  unfold f_is_tackle
  have e0 : ent 1 2 [.v (tD t)] = [some (.v (tD t)), none] := rfl
  have pl : (tD t).plain = true := by rw [tD_tR]; exact plain_tR _
  have ty : isTy "tuple" (tD t) = some true := by unfold isTy; rw [pl]; rfl
  have g : gLen [tD t] = some (.int (t.length : Int)) := by unfold tD; rw [u_lenT, List.length_map]
  have s1 : sIf (tOo (tNo (tstV (eIs "tuple" (eBw 0)))) (tNo (tChn dLe dLe (eC (.int 1)) (eCall gLen (lC (eBw 0) lN)) (eC (.int 4))))) (sRet (eC (.bool false))) sNil [some (.v (tD t)), none] w = .nx [some (.v (tD t)), none] w := by
    have c : tChn dLe dLe (eC (.int 1)) (eCall gLen (lC (eBw 0) lN)) (eC (.int 4)) [some (.v (tD t)), none] w = .ok true w := by
      have h1 : decide ((1 : Int) ≤ (t.length : Int)) = true := decide_eq_true (by have := h.l1; omega)
      have h2 : decide ((t.length : Int) ≤ 4) = true := decide_eq_true (by have := h.l4; omega)
      unfold tChn
      simp only [u_eC, u_eCall, u_lC, u_lN, u_eBw, List.getElem?_cons_zero, bind_ok, g, of_some, u_leI, h1, h2]
      rfl
    simp only [u_sIf, u_tOo, u_tNo, u_tstV, u_eIs, u_eBw, List.getElem?_cons_zero, bind_ok, ty, Option.map_some, of_some, u_truB, Bool.not_true, Bool.false_eq_true, if_false, c, bindS_ok, u_sNil]
  have a := eAll_map (fi := iS (eV 0)) (tgt := gN 1) (tt := oYes) (fe := e_is_tackle_0) (vs := [1]) (ρ := [some (.v (tD t)), none]) (w := w) (w1 := w) (xs := t) nD (fun _ => true) rfl fun x hx => ⟨[some (.v (tD t)), some (.v (nD x))], rfl, rfl, by
    obtain ⟨h1, h2⟩ := h.ok x hx
    have := is_number_int (x : Int) 1 8 w
    rw [decide_eq_true (by omega), decide_eq_true (by omega)] at this
    have : m_is_number [.v (nD x), .v (.int 1), .v (.int 8)] w = .ok (.bool true) w := this
    unfold e_is_tackle_0
    simp [this]⟩
  have al : t.all (fun _ => true) = true := by simp
  rw [al] at a
  rw [e0, u_sSeq, s1, seqK_nx, u_sRet, a]
  rfl
theorem sim_q (x : Rat) : Sim 3 (qD x) := .tup 2 _ (fun d hd => by
  simp only [List.mem_cons, List.not_mem_nil, or_false] at hd
  rcases hd with rfl | rfl <;> exact .int _ _) (by simp)
theorem alike_ok {d : D} (h : Sim 3 d) (w : Wd) : m__law_alike 4 [.v d, .v d] w = .ok (.bool true) w := alike_self (mj := m__law_alike) (fun _ => rfl) 3 d h w
theorem says_ok (w : Wd) : m__law_says [.v (.bool true), .v (.bool true)] w = .ok (.bool true) w := by
  unfold m__law_says
  exact s_lsays true true w
section
variable {g : Rat} {t : List Nat} (hg : GOk g) (ht : TkOk t) {w : Wd}
abbrev E2 (sc : Sl) (g : Rat) (t : List Nat) (x4 x5 x6 x7 x8 x9 x10 x11 x12 x13 x14 x15 x16 x17 x18 : Option Sl) : Ev := E sc (some (.v (qD g))) (some (.v (tD t))) x4 x5 x6 x7 x8 x9 x10 x11 x12 x13 x14 x15 x16 x17 x18
theorem TkOk.le {t : List Nat} (ht : TkOk t) : ∀ x ∈ t, x ≤ 8 := fun x hx => (ht.ok x hx).2
theorem l5 {t : List Nat} (h : t.length ≤ 4) : t.length * (64 * 5 + 17) ≤ 3600 := by omega
include hg ht
theorem st3 : s_law_3 (E2 sc g t none none none none none none none none none none none none none none none) w = .nx (E2 sc g t none none none none none none none none none none none none none none none) w := by
  unfold s_law_3
  have f1 := s_lifts hg.sz t ht.le (by decide) (l5 ht.l4) w
  have f2 := s_llifts hg.sz t ht.le ht.l4 w
  have al := alike_ok (sim_q (Lf g t)) w
  simp only [u_sIf, u_tOo, u_tNo, u_tstV, u_eCallF, u_aCons, u_aNil, u_eV, u_eC, List.getElem?_cons_zero, List.getElem?_cons_succ, bind_ok, List.length_cons, List.length_nil, Nat.reduceAdd, if_true, s_is_tackle ht w, says_ok w, u_truB, of_some, Bool.not_true, Bool.false_eq_true, if_false, f1, f2, al, bindS_ok, u_sNil]
omit hg in
theorem st5 : ∃ x5, s_law_5 (E2 sc g t (some (.v (nD 1))) none none none none none none none none none none none none none none) w = .nx (E2 sc g t (some (.v (nD (prod1 t)))) x5 none none none none none none none none none none none none none) w := by
  unfold s_law_5
  obtain ⟨ρ, w', e, hw, x, h1⟩ := forL_inv (tgt := gN 5) (body := sAsg (eBin dMul (eBw 4) (eBin dAdd (eBw 5) (eC (.int 1)))) (gN 4)) nD (fun pre ρ' w' => w' = w ∧ ∃ x5 : Option Sl, ρ' = E2 sc g t (some (.v (nD (prod1 pre)))) x5 none none none none none none none none none none none none none) t [] (E2 sc g t (some (.v (nD 1))) none none none none none none none none none none none none none none) w ⟨rfl, none, rfl⟩
    (fun p b q ρ' w' hq ⟨hw, x, h1⟩ => by
      subst hw h1
      rw [List.nil_append] at hq
      have hb := ht.le b (by rw [hq]; simp)
      have m : dMul (nD (prod1 p)) (nD (b + 1)) = some (nD (prod1 p * (b + 1))) := by
        unfold nD
        rw [dMul_one _ _ (by omega), Int.natCast_mul]
      have ad : dAdd (nD b) (.int 1) = some (nD (b + 1)) := rfl
      refine ⟨_, E2 sc g t (some (.v (nD (prod1 (p ++ [b]))))) (some (.v (nD b))) none none none none none none none none none none none none none, w', rfl, .inl ?_, rfl, _, rfl⟩
      rw [prod1_snoc]
      simp [ad, m])
  subst hw h1
  rw [List.nil_append] at e
  have i : iS (eV 3) (E2 sc g t (some (.v (nD 1))) none none none none none none none none none none none none none none) w' = .ok (t.map nD) w' := rfl
  exact ⟨x, by rw [u_sFor, i, bindS_ok, e]⟩
omit hg in
theorem st6 {x5 : Option Sl} : s_law_6 (E2 sc g t (some (.v (nD (prod1 t)))) x5 none none none none none none none none none none none none none) w = .nx (E2 sc g t (some (.v (nD (prod1 t)))) x5 none none none none none none none none none none none none none) w := by
  unfold s_law_6
  have f1 := s_lifts sz1 t ht.le (by decide) (by have := ht.l4; omega) w
  rw [Lf_one] at f1
  have f1 : m_lifts [.v (tD t), .v (.tuple [.int 1, .int 1])] w = .ok (qD ((prod1 t : Nat) : Rat)) w := f1
  have ne : dNe (qD ((prod1 t : Nat) : Rat)) (.tuple [nD (prod1 t), .int 1]) = some (.bool false) := by
    have := dNe_qD ((prod1 t : Nat) : Rat) ((prod1 t : Nat) : Rat)
    rw [decide_eq_true rfl] at this
    exact this
  simp only [u_sIf, u_tCm, u_eCallF, u_aCons, u_aNil, u_eV, u_eTup, u_lC, u_lN, u_eC, List.getElem?_cons_zero, List.getElem?_cons_succ, bind_ok, List.length_cons, List.length_nil, Nat.reduceAdd, big, Nat.reduceLeDiff, if_true, f1, ne, Option.bind_some, u_bOfb, of_some, bindS_ok, Bool.false_eq_true, if_false, u_sNil]
theorem sum_le {t : List Nat} (ht : TkOk t) : t.sum ≤ 32 := by
  have : ∀ t : List Nat, (∀ x ∈ t, x ≤ 8) → t.sum ≤ 8 * t.length := fun t => by
    induction t with
    | nil => intro _; exact Nat.le_refl _
    | cons x t ih =>
      intro h
      have := h x List.mem_cons_self
      have := ih fun y hy => h y (List.mem_cons_of_mem _ hy)
      rw [List.sum_cons, List.length_cons]; omega
  have := this t ht.le
  have := ht.l4
  omega
theorem sum_tD (t : List Nat) : gSumA [tD t] = some (nD t.sum) := by
  have : ∀ t : List Nat, DL.intsOf (t.map nD) = some (t.map fun n : Nat => (n : Int)) := fun t => by
    induction t with
    | nil => rfl
    | cons x t ih =>
      show (DL.intsOf (t.map nD)).map _ = _
      rw [ih]; rfl
  have s : ∀ t : List Nat, (t.map fun n : Nat => (n : Int)).sum = ((t.sum : Nat) : Int) := fun t => by
    induction t with
    | nil => rfl
    | cons x t ih => rw [List.map_cons, List.sum_cons, ih, List.sum_cons]; push_cast; rfl
  show (DL.intsOf (t.map nD)).map _ = _
  rw [this]
  show some (PyData.int _) = _
  rw [s]; rfl
end
end K89

set_option Elab.async false
set_option linter.all false
set_option maxRecDepth 100000
set_option maxHeartbeats 4000000
/-! K89S: the law, second part -/
namespace K89
open PySem PySem.Spec L2 DL DG PyProof.Rows PySem.W DM DQ
theorem ones_ok (k : Nat) (h1 : 1 ≤ k) (h2 : k ≤ 1000) : dMul (.tuple [.int 1]) (nD k) = some (tD (List.replicate k 1)) := by
  show (if ([PyData.int 1] : List D) ≠ [] ∧ (2 : Int) ≤ (k : Int) ∧ (k : Int) ≤ 1000 ∧ ([PyData.int 1] : List D).length ≤ 1000 then some (PyData.tuple (DL.rep (k : Int) [PyData.int 1])) else if (k : Int) = 1 then some (PyData.tuple [PyData.int 1]) else none) = _
  have key : ∀ k : Nat, (List.replicate k [PyData.int 1]).flatten = (List.replicate k 1).map nD := fun k => by
    induction k with
    | zero => rfl
    | succ k ih => rw [List.replicate_succ, List.flatten_cons, ih, List.replicate_succ]; rfl
  by_cases q : k = 1
  · subst q
    rw [if_neg (by omega), if_pos (show ((1 : Nat) : Int) = 1 from rfl)]
    rfl
  · rw [if_pos ⟨by simp, by omega, by omega, by simp⟩]
    unfold DL.rep tD
    rw [Int.toNat_natCast, key]
theorem min4 (s : Nat) : gMin [.int 4, nD s] = some (nD (min 4 s)) := by
  show some (PyData.int (if (s : Int) < 4 then (s : Int) else 4)) = _
  unfold nD
  congr 2
  split <;> omega
theorem ones_le (k : Nat) : ∀ x ∈ List.replicate k 1, x ≤ 8 := fun x hx => by rw [(List.mem_replicate.mp hx).2]; decide
section
variable {sc : Sl} {g : Rat} {t : List Nat} (hg : GOk g) (ht : TkOk t) {w : Wd} {x4 x5 : Option Sl}
include hg ht
theorem st9 : ∃ x7, s_law_9 (E2 sc g t x4 x5 (some (.v (qD 1))) none none none none none none none none none none none none) w = .nx (E2 sc g t x4 x5 (some (.v (qD ((1 + g) ^ t.sum)))) x7 none none none none none none none none none none none) w := by
  unfold s_law_9
  have hs := sum_le hg ht ht
  have hc : Sz 8 (1 + g) := (sz1.add hg.sz).mono (by decide)
  have pl := s_lplus w sz1 hg.sz (by decide)
  have pl : m__law_plus [.v (.tuple [.int 1, .int 1]), .v (qD g)] w = .ok (qD (1 + g)) w := pl
  obtain ⟨ρ, w', e, hw, x, h1⟩ := forL_inv (tgt := gN 7) (body := b_law_8) nD (fun pre ρ' w' => w' = w ∧ ∃ x7 : Option Sl, ρ' = E2 sc g t x4 x5 (some (.v (qD ((1 + g) ^ pre.length)))) x7 none none none none none none none none none none none) (List.range t.sum) [] (E2 sc g t x4 x5 (some (.v (qD ((1 + g) ^ 0)))) none none none none none none none none none none none none) w ⟨rfl, none, rfl⟩
    (fun p b q ρ' w' hq ⟨hw, x, h1⟩ => by
      rw [hw]
      subst h1
      rw [List.nil_append] at hq
      obtain ⟨_, hp⟩ := range_at hq
      have tm := s_ltimes w (sz_pow hc p.length) hc (by omega)
      rw [← Rat.pow_succ] at tm
      refine ⟨_, E2 sc g t x4 x5 (some (.v (qD ((1 + g) ^ (p ++ [b]).length)))) (some (.v (nD b))) none none none none none none none none none none none, w, rfl, .inl ?_, rfl, _, rfl⟩
      rw [List.length_append, List.length_singleton]
      unfold b_law_8
      simp [big, pl, tm])
  rw [hw, h1] at e
  rw [List.nil_append, List.length_range, Rat.pow_zero] at e
  have rr : iR1 (eCall gSumA (lC (eBw 3) lN)) (E2 sc g t x4 x5 (some (.v (qD 1))) none none none none none none none none none none none none) w = .ok ((List.range t.sum).map nD) w := by
    refine (iR1_ok (j := (t.sum : Int)) (w1 := w) ?_ (by omega) (by omega)).trans rfl
    simp [sum_tD hg ht]
    rfl
  exact ⟨x, by rw [u_sFor, rr, bindS_ok, e]⟩
theorem sum_pos : 1 ≤ t.sum := by
  have h1 := ht.l1
  cases t with
  | nil => simp at h1
  | cons x t => have := (ht.ok x List.mem_cons_self).1; rw [List.sum_cons]; omega
omit ht in
theorem sz_c (k : Nat) : Sz (8 * k + 1) ((1 + g) ^ k) := sz_pow ((sz1.add hg.sz).mono (by decide)) k
theorem st10 {x7 : Option Sl} : s_law_10 (E2 sc g t x4 x5 (some (.v (qD ((1 + g) ^ t.sum)))) x7 none none none none none none none none none none none) w = .nx (E2 sc g t x4 x5 (some (.v (qD ((1 + g) ^ t.sum)))) x7 none none none none none none none none none none none) w := by
  unfold s_law_10
  have hs := sum_le hg ht ht
  have hp := sum_pos hg ht
  have f1 := s_lifts hg.sz t ht.le (by decide) (l5 ht.l4) w
  have l := s_lless w ((sz_c hg t.sum).mono (show 8 * t.sum + 1 ≤ 2000 by omega)) ((sz_Lf hg.sz t ht.le).mono (show t.length * (64 * 5 + 17) + 1 ≤ 2000 by have := ht.l4; omega)) (by decide)
  rw [decide_eq_false (Rat.not_lt.mpr (Lf_le hg.lo t))] at l
  have ol : (List.replicate (min 4 t.sum) 1).length ≤ 4 := by rw [List.length_replicate]; omega
  have f3 := s_lifts hg.sz (List.replicate (min 4 t.sum) 1) (ones_le _) (by decide) (l5 ol) w
  have f4 := s_llifts hg.sz (List.replicate (min 4 t.sum) 1) (ones_le _) ol w
  have oo := ones_ok (min 4 t.sum) (by omega) (by omega)
  simp only [u_sIf, u_tOo, u_tstV, u_eCallF, u_aCons, u_aNil, u_eV, u_tCm, u_eBin, u_eTup, u_eCall, u_lC, u_lN, u_eC, u_eBw, List.getElem?_cons_zero, List.getElem?_cons_succ, bind_ok, List.length_cons, List.length_nil, Nat.reduceAdd, big, Nat.reduceLeDiff, if_true, f1, l, u_truB, of_some, Bool.false_eq_true, if_false, sum_tD hg ht, min4, oo, f3, f4, dNe_qD, decide_true, Bool.not_true, Option.bind_some, u_bOfb, bindS_ok, u_sNil]
end
section
variable {sc : Sl} {g : Rat} (hg : GOk g) {w : Wd} {A3 x4 x6 x7 : Option Sl}
abbrev E3 (sc : Sl) (g : Rat) (A3 x4 x5 x6 x7 x8 x9 x10 x11 x12 x13 x14 x15 x16 x17 x18 : Option Sl) : Ev := E sc (some (.v (qD g))) A3 x4 x5 x6 x7 x8 x9 x10 x11 x12 x13 x14 x15 x16 x17 x18
theorem st11 (hw : IntW w) (x5 : Option Sl) : ∃ rolls most w', (1 ≤ rolls ∧ rolls ≤ 8) ∧ (1 ≤ most ∧ most ≤ 3) ∧ IntW w' ∧ s_law_11 (E3 sc g A3 x4 x5 x6 x7 none none none none none none none none none none none) w = .nx (E3 sc g A3 x4 (some (.v (nD rolls))) x6 x7 (some (.v (nD most))) none none none none none none none none none none) w' := by
  obtain ⟨a, w1, ha, hw1, e1⟩ := take hw 8 (by decide)
  have e1 : m__law_take [.dr, .v (.int 8)] w = .ok (nD a) w1 := e1
  obtain ⟨b, w2, hb, hw2, e2⟩ := take hw1 3 (by decide)
  have e2 : m__law_take [.dr, .v (.int 3)] w1 = .ok (nD b) w2 := e2
  refine ⟨a + 1, b + 1, w2, by omega, by omega, hw2, ?_⟩
  unfold s_law_11 sPar
  have a1 : ∀ n : Nat, dAdd (.int 1) (nD n) = some (nD (n + 1)) := fun n => by
    show some (PyData.int (1 + (n : Int))) = _
    unfold nD; congr 2; omega
  simp [e1, e2, a1]
variable {rolls most : Nat} (h1 : 1 ≤ rolls ∧ rolls ≤ 8) (h2 : 1 ≤ most ∧ most ≤ 3)
def bestD (g : Rat) : Option (List Nat) → D
  | none => .none
  | some b => .tuple [qD (Lf g b), tD b]
include hg h1 h2
theorem tt_ok : ∀ t ∈ TT most rolls, (∀ x ∈ t, x ≤ 8) ∧ t.length ≤ 3 := fun t ht => by
  obtain ⟨a, b, _⟩ := mem_TT.mp ht
  exact ⟨fun x hx => (b x hx).2, by omega⟩
theorem st14 : ∃ x10 x15, s_law_14 (E3 sc g A3 x4 (some (.v (nD rolls))) x6 x7 (some (.v (nD most))) (some (.v .none)) none none none none none none none none none) w = .nx (E3 sc g A3 x4 (some (.v (nD rolls))) x6 x7 (some (.v (nD most))) (some (.v (bestD g (best lex g (TT most rolls))))) x10 none none none none x15 none none none) w := by
  unfold s_law_14
  obtain ⟨ρ, w', e, hw, x10, x15, h5⟩ := forL_inv (tgt := gN 10) (body := b_law_13) tD (fun pre ρ' w' => w' = w ∧ ∃ x10 x15 : Option Sl, ρ' = E3 sc g A3 x4 (some (.v (nD rolls))) x6 x7 (some (.v (nD most))) (some (.v (bestD g (best lex g pre)))) x10 none none none none x15 none none none) (TT most rolls) [] (E3 sc g A3 x4 (some (.v (nD rolls))) x6 x7 (some (.v (nD most))) (some (.v .none)) none none none none none none none none none) w ⟨rfl, none, none, rfl⟩
    (fun p t q ρ' w' hq ⟨hw, x10, x15, h5⟩ => by
      rw [hw]
      subst h5
      rw [List.nil_append] at hq
      obtain ⟨ht1, ht2⟩ := tt_ok hg h1 h2 t (by rw [hq]; simp)
      have f := s_llifts hg.sz t ht1 (by omega) w
      have szt := (sz_Lf hg.sz t ht1).mono (show t.length * (64 * 5 + 17) + 1 ≤ 2000 by omega)
      refine ⟨E3 sc g A3 x4 (some (.v (nD rolls))) x6 x7 (some (.v (nD most))) (some (.v (bestD g (best lex g p)))) (some (.v (tD t))) none none none none x15 none none none, E3 sc g A3 x4 (some (.v (nD rolls))) x6 x7 (some (.v (nD most))) (some (.v (bestD g (best lex g (p ++ [t]))))) (some (.v (tD t))) none none none none (some (.v (qD (Lf g t)))) none none none, w, rfl, .inl ?_, rfl, _, _, rfl⟩
      rw [best_snoc]
      unfold b_law_13
      cases hb : best lex g p with
      | none =>
        simp [bestD, pick, f, DL.isNon, big]
      | some c =>
        have hc := ((best_spec lex g p).2 c hb).1
        obtain ⟨hc1, hc2⟩ := tt_ok hg h1 h2 c (by rw [hq]; simp [hc])
        have szc := (sz_Lf hg.sz c hc1).mono (show c.length * (64 * 5 + 17) + 1 ≤ 2000 by omega)
        have l := s_lless w szc szt (by decide)
        have ga : ∀ t : List Nat, gLen [tD t] = some (nD t.length) := fun t => by unfold tD; rw [u_lenT, List.length_map]; rfl
        have ee : dLtT (.tuple [nD t.length, tD t]) (.tuple [nD c.length, tD c]) = some (.bool (lex t c)) := lt_kD t c
        have i0 : dIx (.tuple [qD (Lf g c), tD c]) (.int 0) = some (qD (Lf g c)) := rfl
        have i1 : dIx (.tuple [qD (Lf g c), tD c]) (.int 1) = some (tD c) := rfl
        have cond : (tOo (tCm dIs (eBw 9) (eC .none)) (tOo (tstV (eCallF 2 m__law_less (aCons (eBin dIx (eBw 9) (eC (.int 0))) (aCons (eV 15) aNil)))) (tAn (tCm dEq (eBin dIx (eBw 9) (eC (.int 0))) (eBw 15)) (tCm dLtT (eTup (lC (eCall gLen (lC (eBw 10) lN)) (lC (eV 10) lN))) (eTup (lC (eCall gLen (lC (eBin dIx (eBw 9) (eC (.int 1))) lN)) (lC (eBin dIx (eBw 9) (eC (.int 1))) lN))))))) (E3 sc g A3 x4 (some (.v (nD rolls))) x6 x7 (some (.v (nD most))) (some (.v (.tuple [qD (Lf g c), tD c]))) (some (.v (tD t))) none none none none (some (.v (qD (Lf g t)))) none none none) w = .ok (better lex g t c) w := by
          have nn : DL.isNon (.tuple [qD (Lf g c), tD c]) = false := rfl
          simp only [u_tOo, u_tAn, u_tCm, u_tstV, u_eCallF, u_aCons, u_aNil, u_eBw, u_eV, u_eC, u_eBin, u_eTup, u_lC, u_lN, u_eCall, List.getElem?_cons_zero, List.getElem?_cons_succ, bind_ok, u_isN, nn, Option.bind_some, u_bOfb, of_some, Bool.false_eq_true, if_false, i0, i1, List.length_cons, List.length_nil, Nat.reduceAdd, big, Nat.reduceLeDiff, if_true, l, u_truB, dEq_qD, ga, ee]
          unfold better
          by_cases q1 : Lf g t = Lf g c
          · have q2 : ¬ Lf g c < Lf g t := by rw [q1]; exact Rat.lt_irrefl
            rw [decide_eq_false q2, decide_eq_true q1.symm, if_pos q1]
            rfl
          · have q3 : ¬ Lf g c = Lf g t := fun z => q1 z.symm
            rw [if_neg q1, decide_eq_false q3]
            by_cases q2 : Lf g c < Lf g t
            · rw [decide_eq_true q2]; rfl
            · rw [decide_eq_false q2]; rfl
        have s1 : sAsg (eCallF 2 m__law_lifts (aCons (eV 10) (aCons (eV 2) aNil))) (gN 15) (E3 sc g A3 x4 (some (.v (nD rolls))) x6 x7 (some (.v (nD most))) (some (.v (.tuple [qD (Lf g c), tD c]))) (some (.v (tD t))) none none none none x15 none none none) w = .nx (E3 sc g A3 x4 (some (.v (nD rolls))) x6 x7 (some (.v (nD most))) (some (.v (.tuple [qD (Lf g c), tD c]))) (some (.v (tD t))) none none none none (some (.v (qD (Lf g t)))) none none none) w := by
          simp [f]
        have e0 : bestD g (some c) = .tuple [qD (Lf g c), tD c] := rfl
        rw [e0]
        rw [u_sSeq, s1, seqK_nx, u_sIf, cond, bindS_ok]
        unfold pick
        dsimp only
        cases hbt : better lex g t c with
        | true =>
          rw [if_pos rfl, if_pos rfl]
          simp [big]
          rfl
        | false =>
          rw [if_neg (by decide), if_neg (by decide)]
          rfl)
  rw [hw, h5] at e
  rw [List.nil_append] at e
  have i : iS (eCallF 2 m__law_tackles (aCons (eV 5) (aCons (eV 8) aNil))) (E3 sc g A3 x4 (some (.v (nD rolls))) x6 x7 (some (.v (nD most))) (some (.v .none)) none none none none none none none none none) w = .ok ((TT most rolls).map tD) w := by
    have := s_ltackles (most := most) (rolls := rolls) (w := w) (by omega)
    simp [this]
  exact ⟨x10, x15, by rw [u_sFor, i, bindS_ok, e]⟩
theorem tt_ne : [rolls] ∈ TT most rolls := mem_TT.mpr ⟨by simp; omega, fun x hx => by rw [List.mem_singleton.mp hx]; omega, by simp⟩
end
end K89

set_option Elab.async false
set_option linter.all false
set_option maxRecDepth 100000
set_option maxHeartbeats 4000000
namespace K89
open PySem PySem.Spec L2 DL DG PyProof.Rows PySem.W DM DQ
theorem told_much (w : Wd) : m__law_told [.v (.int 1), .v (.tuple [.int 1000, .int 1]), .v .none, .v (.tuple [.int 1, .int 1000])] w = .ok (.str "much") w := by kernel_rfl
end K89

set_option Elab.async false
set_option linter.all false
set_option maxRecDepth 100000
set_option maxHeartbeats 4000000
/-! K89T: the law, third part -/
namespace K89
open PySem PySem.Spec L2 DL DG PyProof.Rows PySem.W DM DQ
theorem plain_tD (t : List Nat) : (tD t).plain = true := by rw [tD_tR]; exact plain_tR _
theorem ne_str (t : List Nat) (s : Str) : dNe (tD t) (.str s) = some (.bool true) := by
  unfold dNe eqOk
  rw [plain_tD]
  rfl
theorem ne_tD (a b : List Nat) : ∃ v, dNe (tD a) (tD b) = some (.bool v) := by
  rw [tD_tR, tD_tR]
  have := dNe_datum (α := PySem.W.Tup Int) (by decide) ⟨a.map fun n : Nat => (n : Int)⟩ ⟨b.map fun n : Nat => (n : Int)⟩
  exact ⟨_, this⟩
theorem sim_t (t : List Nat) (h : t.length ≤ 100000) : Sim 3 (tD t) := .tup 2 _ (fun d hd => by
  obtain ⟨x, _, rfl⟩ := List.mem_map.mp hd
  exact .int _ _) (by rw [List.length_map]; exact h)
def toldD : Option (List Nat) → D
  | some b => tD b
  | none => .str "refused"
section
variable {sc : Sl} {g : Rat} (hg : GOk g) {w : Wd} {t b : List Nat} {x4 x6 x7 x10 x15 : Option Sl} {rolls most : Nat} (h1 : 1 ≤ rolls ∧ rolls ≤ 8) (h2 : 1 ≤ most ∧ most ≤ 3) (hb : best lex g (TT most rolls) = some b)
abbrev E4 (sc : Sl) (g : Rat) (t b : List Nat) (x4 x6 x7 : Option Sl) (rolls most : Nat) (x10 x11 x12 x13 x14 x15 x16 x17 x18 : Option Sl) : Ev := E sc (some (.v (qD g))) (some (.v (tD t))) x4 (some (.v (nD rolls))) x6 x7 (some (.v (nD most))) (some (.v (.tuple [qD (Lf g b), tD b]))) x10 x11 x12 x13 x14 x15 x16 x17 x18
include hg h1 h2
theorem told_eq (r : Nat) (hr : 1 ≤ r ∧ r ≤ 9) : m__law_told [.v (.int 0), .v (nD r), .v (nD most), .v (qD g)] w = .ok (toldD (best lex g (TT most r))) w := by
  rw [told_best hg.sz (by decide) r most (by omega) (by omega) (by omega)]
  cases best lex g (TT most r) <;> rfl
include hb
theorem st15 : s_law_15 (E4 sc g t b x4 x6 x7 rolls most x10 none none none none x15 none none none) w = .nx (E4 sc g t b x4 x6 x7 rolls most x10 (some (.v (tD b))) none none none x15 none none none) w := by
  unfold s_law_15
  have e := told_eq hg h1 h2 (w := w) rolls (by omega)
  rw [hb] at e
  have e : m__law_told [.v (.int 0), .v (nD rolls), .v (nD most), .v (qD g)] w = .ok (tD b) w := e
  simp [e]
theorem st16 : s_law_16 (E4 sc g t b x4 x6 x7 rolls most x10 (some (.v (tD b))) none none none x15 none none none) w = .nx (E4 sc g t b x4 x6 x7 rolls most x10 (some (.v (tD b))) none none none x15 none none none) w := by
  unfold s_law_16
  have hbm := ((best_spec lex g _).2 b hb).1
  obtain ⟨_, hl⟩ := tt_ok hg h1 h2 b hbm
  have al := alike_ok (sim_t b (by omega)) w
  have i1 : dIx (.tuple [qD (Lf g b), tD b]) (.int 1) = some (tD b) := rfl
  simp only [u_sIf, u_tNo, u_tstV, u_eCallF, u_aCons, u_aNil, u_eV, u_eBin, u_eBw, u_eC, List.getElem?_cons_zero, List.getElem?_cons_succ, bind_ok, i1, of_some, List.length_cons, List.length_nil, Nat.reduceAdd, if_true, al, u_truB, Bool.not_true, bindS_ok, Bool.false_eq_true, if_false, u_sNil]
omit hb in
theorem st17 : s_law_17 (E4 sc g t b x4 x6 x7 rolls most x10 (some (.v (tD b))) none none none x15 none none none) w = .nx (E4 sc g t b x4 x6 x7 rolls most x10 (some (.v (tD b))) (some (.v (toldD (best lex g (TT most (rolls + 1)))))) none none x15 none none none) w := by
  unfold s_law_17
  have e := told_eq hg h1 h2 (w := w) (rolls + 1) (by omega)
  have ad : dAdd (nD rolls) (.int 1) = some (nD (rolls + 1)) := rfl
  simp [ad, e]
omit hb in
theorem st18 {m : Option Sl} (hw : IntW w) : ∃ gw w', Sz 16 gw ∧ g ≤ gw ∧ IntW w' ∧ s_law_18 (E4 sc g t b x4 x6 x7 rolls most x10 (some (.v (tD b))) m none none x15 none none none) w = .nx (E4 sc g t b x4 x6 x7 rolls most x10 (some (.v (tD b))) m (some (.v (qD gw))) none x15 none none none) w' := by
  obtain ⟨z, w1, hz, hw1, e1⟩ := take hw 5 (by decide)
  have e1 : m__law_take [.dr, .v (.int 5)] w = .ok (nD z) w1 := e1
  have ok := g_mk (p := z) (q := 4) (by omega) (by decide) (by decide)
  have szt : Sz 3 (mkRat (z : Int) 4) := sz_mk (by unfold Bd; omega) (by unfold Bd; decide) (by decide)
  have mi := s_lminus w sz1 hg.sz (by decide)
  have mi : m__law_minus [.v (.tuple [.int 1, .int 1]), .v (qD g)] w = .ok (qD (1 - g)) w := mi
  have sz7 : Sz 7 (1 - g) := (sz1.sub hg.sz).mono (by decide)
  have pa := lpartOk (z : Int) 4 w1 (by decide) (Bd.mono (n := 5) (by unfold Bd; omega) (by decide)) (Bd.mono (n := 5) (by unfold Bd; decide) (by decide))
  have pa : m__law_part [.v (nD z), .v (.int 4)] w1 = .ok (qD (mkRat (z : Int) 4)) w1 := pa
  have tm := s_ltimes w1 sz7 szt (by decide)
  have pl := s_lplus w1 hg.sz (sz7.mul szt) (by decide)
  refine ⟨g + (1 - g) * mkRat (z : Int) 4, w1, (hg.sz.add (sz7.mul szt)).mono (by decide), ?_, hw1, ?_⟩
  · have h5 : 0 ≤ 1 - g := by have := hg.hi; grind
    have := Rat.mul_nonneg h5 ok.lo
    grind
  · unfold s_law_18
    simp [big, mi, e1, pa, tm, pl]
theorem st19 {gw : Rat} (hs : Sz 16 gw) (hge : g ≤ gw) {x11 : Option Sl} : s_law_19 (E4 sc g t b x4 x6 x7 rolls most x10 x11 (some (.v (toldD (best lex g (TT most (rolls + 1)))))) (some (.v (qD gw))) none x15 none none none) w = .nx (E4 sc g t b x4 x6 x7 rolls most x10 x11 (some (.v (toldD (best lex g (TT most (rolls + 1)))))) (some (.v (qD gw))) none x15 none none none) w := by
  unfold s_law_19
  obtain ⟨hbm, hbest⟩ := (best_spec lex g _).2 b hb
  obtain ⟨hb8, hbl⟩ := tt_ok hg h1 h2 b hbm
  have szb := (sz_Lf hg.sz b hb8).mono (show b.length * (64 * 5 + 17) + 1 ≤ 3500 by omega)
  obtain ⟨bw, hbw, hbwm, hbwb⟩ := best_some lex gw (tt_ne hg h1 h2)
  obtain ⟨hw8, hwl⟩ := tt_ok hg h1 h2 bw hbwm
  have szw := (sz_Lf hs bw hw8).mono (show bw.length * (64 * 16 + 17) + 1 ≤ 3500 by omega)
  have bt := s_best_tackle hs (by decide) (w := w) rolls most (by omega) (by omega) (by omega)
  rw [hbw] at bt
  have bt : m_best_tackle [.v (nD rolls), .v (nD most), .v (qD gw)] w = .ok (tD bw) w := bt
  have fw := s_lifts hs bw hw8 (by decide) (by omega) w
  have lw := s_lless w szw szb (by decide)
  have hle : Lf g b ≤ Lf gw bw := Rat.le_trans (Lf_mono hg.lo hge b) (hbwb b hbm)
  rw [decide_eq_false (Rat.not_lt.mpr hle)] at lw
  have i0 : dIx (.tuple [qD (Lf g b), tD b]) (.int 0) = some (qD (Lf g b)) := rfl
  obtain ⟨ρ, hρ⟩ : ∃ ρ : Ev, ρ = E4 sc g t b x4 x6 x7 rolls most x10 x11 (some (.v (toldD (best lex g (TT most (rolls + 1)))))) (some (.v (qD gw))) none x15 none none none := ⟨_, rfl⟩
  have second : tstV (eCallF 2 m__law_less (aCons (eCallF 2 m_lifts (aCons (eCallF 3 m_best_tackle (aCons (eV 5) (aCons (eV 8) (aCons (eV 13) aNil)))) (aCons (eV 13) aNil))) (aCons (eBin dIx (eBw 9) (eC (.int 0))) aNil))) ρ w = .ok false w := by
    rw [hρ]
    simp only [u_tstV, u_eCallF, u_aCons, u_aNil, u_eV, u_eBin, u_eBw, u_eC, List.getElem?_cons_zero, List.getElem?_cons_succ, bind_ok, List.length_cons, List.length_nil, Nat.reduceAdd, if_true, bt, fw, i0, of_some, lw, u_truB]
  have first : tAn (tCm dNe (eBw 12) (eC (.str "refused"))) (tstV (eCallF 2 m__law_less (aCons (eCallF 2 m__law_lifts (aCons (eV 12) (aCons (eV 2) aNil))) (aCons (eBin dIx (eBw 9) (eC (.int 0))) aNil)))) ρ w = .ok false w := by
    rw [hρ]
    cases hm : best lex g (TT most (rolls + 1)) with
    | none =>
      have : dNe (.str "refused") (.str "refused") = some (.bool false) := rfl
      simp only [toldD, u_tAn, u_tCm, u_eBw, u_eC, List.getElem?_cons_zero, List.getElem?_cons_succ, bind_ok, this, Option.bind_some, u_bOfb, of_some, Bool.false_eq_true, if_false]
    | some b' =>
      obtain ⟨hbm', hbest'⟩ := (best_spec lex g _).2 b' hm
      obtain ⟨c1, c2, _⟩ := mem_TT.mp hbm'
      have h8 : ∀ x ∈ b', x ≤ 8 := fun x hx => (c2 x hx).2
      have fl := s_llifts hg.sz b' h8 (by omega) w
      have szb' := (sz_Lf hg.sz b' h8).mono (show b'.length * (64 * 5 + 17) + 1 ≤ 3500 by omega)
      have l := s_lless w szb' szb (by decide)
      obtain ⟨t', ht', hle'⟩ := more_ok hg.lo hbm hbm'
      rw [decide_eq_false (Rat.not_lt.mpr (Rat.le_trans hle' (hbest' t' ht')))] at l
      have n := ne_str b' "refused"
      simp only [toldD, u_tAn, u_tCm, u_tstV, u_eCallF, u_aCons, u_aNil, u_eV, u_eBin, u_eBw, u_eC, List.getElem?_cons_zero, List.getElem?_cons_succ, bind_ok, n, Option.bind_some, u_bOfb, of_some, if_true, List.length_cons, List.length_nil, Nat.reduceAdd, fl, i0, l, u_truB]
  rw [← hρ, u_sIf, u_tOo, first, bind_ok, if_neg (by decide), second, bindS_ok, if_neg (by decide)]
  rfl
theorem st20 {x12 x13 : Option Sl} : s_law_20 (E4 sc g t b x4 x6 x7 rolls most x10 (some (.v (tD b))) x12 x13 none x15 none none none) w = .nx (E4 sc g t b x4 x6 x7 rolls most x10 (some (.v (tD b))) x12 x13 none x15 none none none) w := by
  unfold s_law_20
  have t1 : tCm dLe (eBw 5) (eBw 8) (E4 sc g t b x4 x6 x7 rolls most x10 (some (.v (tD b))) x12 x13 none x15 none none none) w = .ok (decide ((rolls : Int) ≤ (most : Int))) w := rfl
  rw [u_sIf, u_tAn, t1, bind_ok]
  by_cases q : (rolls : Int) ≤ (most : Int)
  · rw [decide_eq_true q, if_pos rfl]
    obtain ⟨hbm, hbest⟩ := (best_spec lex g _).2 b hb
    have onm : List.replicate rolls 1 ∈ TT most rolls := mem_TT.mpr ⟨by rw [List.length_replicate]; omega, fun x hx => by rw [(List.mem_replicate.mp hx).2]; decide, by simp⟩
    have ge := hbest _ onm
    have le := Lf_le hg.lo b
    rw [(mem_TT.mp hbm).2.2, ← Lf_ones] at le
    have heq : Lf g (List.replicate rolls 1) = Lf g b := Rat.le_antisymm ge le
    obtain ⟨v, hv⟩ := ne_tD b (List.replicate rolls 1)
    have oo := ones_ok rolls (by omega) (by omega)
    have f4 := s_llifts hg.sz (List.replicate rolls 1) (ones_le _) (by rw [List.length_replicate]; omega) w
    have i0 : dIx (.tuple [qD (Lf g b), tD b]) (.int 0) = some (qD (Lf g b)) := rfl
    have third : tCm dNe (eCallF 2 m__law_lifts (aCons (eBin dMul (eTup (lC (eC (.int 1)) lN)) (eBw 5)) (aCons (eV 2) aNil))) (eBin dIx (eBw 9) (eC (.int 0))) (E4 sc g t b x4 x6 x7 rolls most x10 (some (.v (tD b))) x12 x13 none x15 none none none) w = .ok false w := by
      simp only [u_tCm, u_eCallF, u_aCons, u_aNil, u_eV, u_eBin, u_eTup, u_lC, u_lN, u_eBw, u_eC, List.getElem?_cons_zero, List.getElem?_cons_succ, bind_ok, List.length_cons, List.length_nil, Nat.reduceAdd, big, Nat.reduceLeDiff, if_true, oo, of_some, f4, i0, dNe_qD, heq, decide_true, Bool.not_true, Option.bind_some, u_bOfb]
    have second : tCm dNe (eBw 11) (eBin dMul (eTup (lC (eC (.int 1)) lN)) (eBw 5)) (E4 sc g t b x4 x6 x7 rolls most x10 (some (.v (tD b))) x12 x13 none x15 none none none) w = .ok v w := by
      simp only [u_tCm, u_eBin, u_eTup, u_lC, u_lN, u_eBw, u_eC, List.getElem?_cons_zero, List.getElem?_cons_succ, bind_ok, List.length_cons, List.length_nil, Nat.reduceAdd, big, Nat.reduceLeDiff, if_true, oo, of_some, hv, Option.bind_some, u_bOfb]
    rw [u_tAn, second, bind_ok, third]
    cases v <;> rfl
  · rw [decide_eq_false q, if_neg (by decide)]
    rfl
end
end K89

set_option Elab.async false
set_option linter.all false
set_option maxRecDepth 100000
set_option maxHeartbeats 4000000
/-! K89U: the law, last part -/
namespace K89
open PySem PySem.Spec L2 DL DG PyProof.Rows PySem.W DM DQ
section
variable {sc : Sl} {g : Rat} (hg : GOk g) {w : Wd} {t : List Nat} {x4 x5 x6 x7 x8 x9 x10 x11 x12 x13 : Option Sl}
abbrev E5 (sc : Sl) (g : Rat) (t : List Nat) (x4 x5 x6 x7 x8 x9 x10 x11 x12 x13 x14 x15 x16 x17 x18 : Option Sl) : Ev := E sc (some (.v (qD g))) (some (.v (tD t))) x4 x5 x6 x7 x8 x9 x10 x11 x12 x13 x14 x15 x16 x17 x18
theorem st21 {x15 : Option Sl} (hw : IntW w) : ∃ load w', Sz 12 load ∧ IntW w' ∧ s_law_21 (E5 sc g t x4 x5 x6 x7 x8 x9 x10 x11 x12 x13 none x15 none none none) w = .nx (E5 sc g t x4 x5 x6 x7 x8 x9 x10 x11 x12 x13 (some (.v (qD load))) (some (.v (qD ((1 + g) ^ 0)))) (some (.v (nD 0))) none none) w' := by
  obtain ⟨a, w1, ha, hw1, e1⟩ := take hw 400 (by decide)
  have e1 : m__law_take [.dr, .v (.int 400)] w = .ok (nD a) w1 := e1
  obtain ⟨b, w2, hb, hw2, e2⟩ := take hw1 9 (by decide)
  have e2 : m__law_take [.dr, .v (.int 9)] w1 = .ok (nD b) w2 := e2
  have a1 : ∀ n : Nat, dAdd (.int 1) (nD n) = some (nD (n + 1)) := fun n => by
    show some (PyData.int (1 + (n : Int))) = _
    unfold nD; congr 2; omega
  have l1 := lpartOk ((a + 1 : Nat) : Int) (b + 1) w2 (by omega) (Bd.mono (n := 12) (by unfold Bd; omega) (by decide)) (Bd.mono (n := 12) (by unfold Bd; omega) (by decide))
  have l1 : m__law_part [.v (nD (a + 1)), .v (nD (b + 1))] w2 = .ok (qD (mkRat ((a + 1 : Nat) : Int) (b + 1))) w2 := l1
  refine ⟨mkRat ((a + 1 : Nat) : Int) (b + 1), w2, sz_mk (by unfold Bd; omega) (by unfold Bd; omega) (by omega), hw2, ?_⟩
  rw [Rat.pow_zero]
  unfold s_law_21 sPar3
  simp [e1, e2, a1, l1, big]
  exact ⟨rfl, rfl⟩
include hg
theorem st24 {load : Rat} (hl : Sz 12 load) : ∀ (n k fuel : Nat), k + n = 61 → n < fuel → ∃ y, whl t_law_23 b_law_22 fuel (E5 sc g t x4 x5 x6 x7 x8 x9 x10 x11 x12 x13 (some (.v (qD load))) (some (.v (qD ((1 + g) ^ k)))) (some (.v (nD k))) none none) w =
    .nx (E5 sc g t x4 x5 x6 x7 x8 x9 x10 x11 x12 x13 (some (.v (qD load))) y (some (.v (nD (k + kf (1 + g) load n ((1 + g) ^ k))))) none none) w := by
  have hc : Sz 8 (1 + g) := (sz1.add hg.sz).mono (by decide)
  have pl := s_lplus w sz1 hg.sz (by decide)
  have pl : m__law_plus [.v (.tuple [.int 1, .int 1]), .v (qD g)] w = .ok (qD (1 + g)) w := pl
  have test : ∀ (k : Nat), k ≤ 61 → t_law_23 (E5 sc g t x4 x5 x6 x7 x8 x9 x10 x11 x12 x13 (some (.v (qD load))) (some (.v (qD ((1 + g) ^ k)))) (some (.v (nD k))) none none) w = .ok (decide ((1 + g) ^ k < load) && decide (k < 61)) w := fun k hk => by
    have l := s_lless w ((pow_sz hc k).mono (show 8 * k + 1 ≤ 800 by omega)) (hl.mono (by decide)) (by decide)
    have lt : dLt (nD k) (.int 61) = some (.bool (decide (k < 61))) := DQ.ltN k 61
    unfold t_law_23
    simp only [u_tAn, u_tstV, u_tCm, u_eCallF, u_aCons, u_aNil, u_eV, u_eBw, u_eC, List.getElem?_cons_zero, List.getElem?_cons_succ, bind_ok, List.length_cons, List.length_nil, Nat.reduceAdd, if_true, l, u_truB, of_some, lt, Option.bind_some, u_bOfb]
    cases decide ((1 + g) ^ k < load) <;> simp
  have body : ∀ k : Nat, k < 61 → b_law_22 (E5 sc g t x4 x5 x6 x7 x8 x9 x10 x11 x12 x13 (some (.v (qD load))) (some (.v (qD ((1 + g) ^ k)))) (some (.v (nD k))) none none) w = .nx (E5 sc g t x4 x5 x6 x7 x8 x9 x10 x11 x12 x13 (some (.v (qD load))) (some (.v (qD ((1 + g) ^ (k + 1))))) (some (.v (nD (k + 1)))) none none) w := fun k hk => by
    have tm := s_ltimes w (pow_sz hc k) hc (by omega)
    rw [← Rat.pow_succ] at tm
    have ad : dAdd (nD k) (.int 1) = some (nD (k + 1)) := rfl
    unfold b_law_22 sPar
    simp [big, pl, tm, ad]
  intro n
  induction n with
  | zero =>
    intro k fuel hk hf
    obtain ⟨m, rfl⟩ : ∃ m, fuel = m + 1 := ⟨fuel - 1, by omega⟩
    refine ⟨some (.v (qD ((1 + g) ^ k))), ?_⟩
    have : decide (k < 61) = false := decide_eq_false (by omega)
    unfold whl
    rw [test k (by omega), this, Bool.and_false, bindS_ok, if_neg (by decide), kf, Nat.add_zero]
  | succ n ih =>
    intro k fuel hk hf
    obtain ⟨m, rfl⟩ : ∃ m, fuel = m + 1 := ⟨fuel - 1, by omega⟩
    have h61 : decide (k < 61) = true := decide_eq_true (by omega)
    unfold whl
    rw [test k (by omega), h61, Bool.and_true, bindS_ok]
    by_cases q : (1 + g) ^ k < load
    · rw [decide_eq_true q, if_pos rfl, body k (by omega)]
      dsimp only
      obtain ⟨y, e⟩ := ih (k + 1) m (by omega) (by omega)
      refine ⟨y, ?_⟩
      rw [e]
      have : kf (1 + g) load (n + 1) ((1 + g) ^ k) = 1 + kf (1 + g) load n ((1 + g) ^ (k + 1)) := by
        rw [kf, if_pos q, Rat.pow_succ]
      rw [this, Nat.add_assoc k 1]
    · rw [decide_eq_false q, if_neg (by decide)]
      refine ⟨some (.v (qD ((1 + g) ^ k))), ?_⟩
      rw [kf, if_neg q, Nat.add_zero]
theorem st25 {load : Rat} (hl : Sz 12 load) {y : Option Sl} : s_law_25 (E5 sc g t x4 x5 x6 x7 x8 x9 x10 x11 x12 x13 (some (.v (qD load))) y (some (.v (nD (kf (1 + g) load 61 1)))) none none) w = .nx (E5 sc g t x4 x5 x6 x7 x8 x9 x10 x11 x12 x13 (some (.v (qD load))) y (some (.v (nD (kf (1 + g) load 61 1)))) none none) w := by
  unfold s_law_25
  have tf := told_few (w := w) (hg.sz.mono (by decide)) hl
  have lt : dLt (nD (kf (1 + g) load 61 1)) (.int 61) = some (.bool (decide (kf (1 + g) load 61 1 < 61))) := DQ.ltN _ 61
  by_cases q : kf (1 + g) load 61 1 ≤ 60
  · rw [if_pos q] at tf
    rw [decide_eq_true (by omega)] at lt
    have al := alike_ok (.int 3 ((kf (1 + g) load 61 1 : Nat) : Int)) w
    have al : m__law_alike 4 [.v (nD (kf (1 + g) load 61 1)), .v (nD (kf (1 + g) load 61 1))] w = .ok (.bool true) w := al
    simp only [u_sIf, u_tNo, u_tstV, u_eCallF, u_aCons, u_aNil, u_eV, u_eC, u_eIf, u_tCm, u_eBw, List.getElem?_cons_zero, List.getElem?_cons_succ, bind_ok, List.length_cons, List.length_nil, Nat.reduceAdd, if_true, tf, lt, Option.bind_some, u_bOfb, of_some, al, u_truB, Bool.not_true, bindS_ok, Bool.false_eq_true, if_false, u_sNil]
  · rw [if_neg q] at tf
    rw [decide_eq_false (by omega)] at lt
    have al := alike_ok (.str 3 "much") w
    simp only [u_sIf, u_tNo, u_tstV, u_eCallF, u_aCons, u_aNil, u_eV, u_eC, u_eIf, u_tCm, u_eBw, List.getElem?_cons_zero, List.getElem?_cons_succ, bind_ok, List.length_cons, List.length_nil, Nat.reduceAdd, if_true, tf, lt, Option.bind_some, u_bOfb, of_some, al, u_truB, Bool.not_true, bindS_ok, Bool.false_eq_true, if_false, u_sNil]
def w4 : D := .list [.str "range", .str "range", .str "range", .str "range"]
omit hg in
theorem st28 {x14 x15 x16 : Option Sl} : s_law_28 (E5 sc g t x4 x5 x6 x7 x8 x9 x10 x11 x12 x13 x14 x15 x16 none none) w = .nx (E5 sc g t x4 x5 x6 x7 x8 x9 x10 x11 x12 x13 x14 x15 x16 (some (.v w4)) none) w := by
  unfold s_law_28
  obtain ⟨ρ, hρ⟩ : ∃ ρ : Ev, ρ = E5 sc g t x4 x5 x6 x7 x8 x9 x10 x11 x12 x13 x14 x15 x16 none none := ⟨_, rfl⟩
  have i1 : iS (eFz (oLst (lC (eC (.int 0)) (lC (eC (.int 11)) lN)))) ρ w = .ok ([(0 : Int), 11].map PyData.int) w := by simp [big]
  have i2 : iS (eFz (oLst (lC (eC (.int 0)) (lC (eC (.int 5)) lN)))) ρ w = .ok ([(0 : Int), 5].map PyData.int) w := by simp [big]
  have c1 := oLc_mapT (fi := iS (eFz (oLst (lC (eC (.int 0)) (lC (eC (.int 11)) lN))))) (tgt := gN 10) (fe := e_law_26) (vs := [10]) (ρ := ρ) (w := w) (w1 := w) (xs := [(0 : Int), 11]) PyData.int PyData.str (fun _ => "range") i1 (by rw [big]; decide) fun x hx => ⟨E5 sc g t x4 x5 x6 x7 x8 x9 (some (.v (.int x))) x11 x12 x13 x14 x15 x16 none none, by rw [hρ]; rfl, by
    have e := told_range (w := w) x 1 (qD g) (.inl (by simp at hx; omega))
    unfold e_law_26
    simp [e]⟩
  have c2 := oLc_mapT (fi := iS (eFz (oLst (lC (eC (.int 0)) (lC (eC (.int 5)) lN))))) (tgt := gN 10) (fe := e_law_27) (vs := [10]) (ρ := ρ) (w := w) (w1 := w) (xs := [(0 : Int), 5]) PyData.int PyData.str (fun _ => "range") i2 (by rw [big]; decide) fun x hx => ⟨E5 sc g t x4 x5 x6 x7 x8 x9 (some (.v (.int x))) x11 x12 x13 x14 x15 x16 none none, by rw [hρ]; rfl, by
    have e := told_range (w := w) 1 x (qD g) (.inr (by simp at hx; omega))
    unfold e_law_27
    simp [e]⟩
  have a : dAdd (.list (([(0 : Int), 11].map fun _ => ("range" : Str)).map PyData.str)) (.list (([(0 : Int), 5].map fun _ => ("range" : Str)).map PyData.str)) = some w4 := by
    unfold dAdd
    dsimp only
    rw [if_pos (by simp [big])]
    rfl
  rw [← hρ, u_sAsg, u_eBin, u_eFz, c1, bind_ok, bind_ok, u_eFz, c2, bind_ok, bind_ok, a, of_some, bindS_ok, hρ]
  rfl
theorem tt91 : TT 1 9 = [] := by
  refine List.eq_nil_iff_forall_not_mem.mpr fun t ht => ?_
  obtain ⟨a, b, c⟩ := mem_TT.mp ht
  match t, a, b, c with
  | [], _, _, c => simp at c
  | [x], _, b, c =>
    have := (b x (by simp)).2
    simp at c
    omega
theorem st29 {x14 x15 x16 : Option Sl} : s_law_29 (E5 sc g t x4 x5 x6 x7 x8 x9 x10 x11 x12 x13 x14 x15 x16 (some (.v w4)) none) w = .nx (E5 sc g t x4 x5 x6 x7 x8 x9 x10 x11 x12 x13 x14 x15 x16 (some (.v w4)) none) w := by
  unfold s_law_29
  have n0 : dNe w4 w4 = some (.bool false) := by
    have hp : w4.plain = true := rfl
    exact dNe_self hp (by decide)
  have r4 : dMul (.list [.str "range"]) (.int 4) = some w4 := by
    show (if repOk 4 1 = true then some (PyData.list (DL.rep 4 [PyData.str "range"])) else none) = _
    rw [if_pos (by unfold repOk; simp [big])]
    rfl
  have f1 := told_best hg.sz (by decide) (w := w) 9 1 (by decide) (by decide) (by decide)
  have bn : best lex g (TT 1 9) = none := by rw [tt91 hg]; rfl
  rw [bn] at f1
  have f1 : m__law_told [.v (.int 0), .v (.int 9), .v (.int 1), .v (qD g)] w = .ok (.str "refused") w := f1
  have f2 := told_much w
  have f3 := told_few (g := g) (w := w) (load := mkRat 1 2) (hg.sz.mono (by decide)) (sz_mk (by unfold Bd; decide) (by unfold Bd; decide) (by decide))
  have k0 : kf (1 + g) (mkRat 1 2) 61 1 = 0 := by
    rw [kf, if_neg (by decide)]
  rw [k0, if_pos (by decide)] at f3
  have f3 : m__law_told [.v (.int 1), .v (.tuple [.int 1, .int 2]), .v .none, .v (qD g)] w = .ok (.int 0) w := by
    have e : qD (mkRat 1 2) = .tuple [.int 1, .int 2] := qD_mk 1 2 (by decide)
    rw [e] at f3
    exact f3
  have n1 : dNe (.str "refused") (.str "refused") = some (.bool false) := rfl
  have n2 : dNe (.str "much") (.str "much") = some (.bool false) := rfl
  have n3 : dNe (.int 0) (.int 0) = some (.bool false) := by rw [dNe_int]; rfl
  simp only [u_sIf, u_tOo, u_tCm, u_eBw, u_eBin, u_eFz, u_oLst, u_lC, u_lN, u_eC, u_eCallF, u_aCons, u_aNil, u_eV, u_eTup, List.getElem?_cons_zero, List.getElem?_cons_succ, bind_ok, List.length_cons, List.length_nil, Nat.reduceAdd, big, Nat.reduceLeDiff, if_true, r4, of_some, n0, Option.bind_some, u_bOfb, Bool.false_eq_true, if_false, f1, n1, f2, n2, f3, n3, bindS_ok, u_sNil]
end
section
variable {sc : Sl} {g : Rat} {w : Wd} {t : List Nat} (ht : TkOk t) {x4 x5 x6 x7 x8 x9 x10 x11 x12 x13 x14 x15 x16 x17 : Option Sl}
def odds (t : List Nat) : List D := [.none, .list (t.map nD), .tuple [], tD [1, 1, 1, 1, 1], .tuple [.int 0], .tuple [.int 9], .tuple [.int (-1)], .tuple [.bool true], .tuple [.none]]
theorem st30 : s_law_30 (E5 sc g t x4 x5 x6 x7 x8 x9 x10 x11 x12 x13 x14 x15 x16 x17 none) w = .nx (E5 sc g t x4 x5 x6 x7 x8 x9 x10 x11 x12 x13 x14 x15 x16 x17 (some (.v (.list (odds t))))) w := by
  unfold s_law_30
  have oo : dMul (.tuple [.int 1]) (.int 5) = some (tD [1, 1, 1, 1, 1]) := ones_ok 5 (by decide) (by decide)
  have gl : gList [tD t] = some (t.map nD) := rfl
  simp only [u_sAsg, u_eFz, u_oLst, u_lC, u_lN, u_eC, u_oCall, u_eBw, u_eTup, u_eBin, u_eNeg, u_negI, List.getElem?_cons_zero, List.getElem?_cons_succ, bind_ok, gl, oo, of_some, List.length_cons, List.length_nil, big, Nat.reduceAdd, Nat.reduceLeDiff, Nat.zero_le, if_true, bindS_ok]
  rfl
theorem s_odd (d : D) (hd : d ∈ odds t) : m_is_tackle [.v d] w = .ok (.bool false) w := by
  unfold odds at hd
  simp only [List.mem_cons, List.not_mem_nil, or_false] at hd
  rcases hd with h | h | h | h | h | h | h | h | h
  · subst h; rfl
  · subst h
    unfold m_is_tackle
    rw [fnD_eq]
    unfold f_is_tackle
    have e0 : ent 1 2 [.v (.list (t.map nD))] = [some (.v (.list (t.map nD))), none] := rfl
    have pl : (PyData.list (t.map nD)).plain = true := by
      have := plain_tD t
      simpa [tD, PyData.plain] using this
    have ty : isTy "tuple" (.list (t.map nD)) = some false := by unfold isTy; rw [pl]; rfl
    rw [e0]
    simp [ty]
  · subst h; rfl
  · subst h; rfl
  · subst h; rfl
  · subst h; rfl
  · subst h; rfl
  · subst h; rfl
  · subst h; rfl
theorem st31 : s_law_31 (E5 sc g t x4 x5 x6 x7 x8 x9 x10 x11 x12 x13 x14 x15 x16 x17 (some (.v (.list (odds t))))) w = .rt (.bool true) w := by
  unfold s_law_31
  have e := oLc_filt (fi := iS (eV 18)) (tgt := gN 20) (tt := tCm dNis (eCallF 1 m_is_tackle (aCons (eV 20) aNil)) (eC (.bool false))) (fe := eV 20) (vs := [20]) (ρ := E5 sc g t x4 x5 x6 x7 x8 x9 x10 x11 x12 x13 x14 x15 x16 x17 (some (.v (.list (odds t))))) (w := w) (w1 := w) (xs := odds t) id (fun _ => false) (by rw [List.map_id]; rfl) (by rw [big]; simp [odds]) fun d hd =>
    ⟨[some sc, some .dr, some (.v (qD g)), some (.v (tD t)), x4, x5, x6, x7, x8, x9, x10, x11, x12, x13, x14, x15, x16, x17, some (.v (.list (odds t))), none, some (.v d)], rfl, by
      have := s_odd (t := t) (w := w) d hd
      simp [this], rfl⟩
  have f0 : (odds t).filter (fun _ => false) = [] := List.filter_eq_nil_iff.mpr fun _ _ => by decide
  rw [f0, List.map_nil] at e
  have n0 : dEq (.list []) (.list []) = some (.bool true) := rfl
  simp only [u_sRet, u_eBin, u_eFz, e, bind_ok, u_oLst, u_lN, List.length_nil, Nat.zero_le, if_true, n0, of_some, bindS_ok]
end
theorem math_ok (ns : List Int) (hl : ns.length ≤ 63) (hb : ∀ z ∈ ns, PySem.Builtin.Int.intBits z ≤ 1048576) : DL.LawTrue 1 21 f_law0 f_law ns := by
  obtain ⟨zs, h0⟩ := DQ.s_ldraws ns hl
  have h0' : f_law0 (ent 1 21 [.sc ns]) [] = .ok (zs.map .int) [] := by
    unfold f_law0
    have : m__law_draws [.sc ns] [] = .ok (zs.map .int) [] := by unfold m__law_draws; exact h0
    simp [this]
  have hd : IntW (zs.map PyData.int) := ⟨zs, rfl⟩
  have e0 : (ent 1 21 [.sc ns]).set 1 (some .dr) = E (.sc ns) none none none none none none none none none none none none none none none none none := rfl
  obtain ⟨g, w1, hg, hw1, q0⟩ := st0 (sc := .sc ns) hd
  obtain ⟨t, w2, ht, hw2, q2⟩ := st2 (sc := .sc ns) hw1 (some (.v (qD g)))
  have q3 := st3 (sc := .sc ns) hg ht (w := w2)
  have q4 : s_law_4 (E2 (.sc ns) g t none none none none none none none none none none none none none none none) w2 = .nx (E2 (.sc ns) g t (some (.v (nD 1))) none none none none none none none none none none none none none none) w2 := rfl
  obtain ⟨x5, q5⟩ := st5 (sc := .sc ns) (g := g) ht (w := w2)
  have q6 := st6 (sc := .sc ns) (g := g) ht (w := w2) (x5 := x5)
  have q7 : s_law_7 (E2 (.sc ns) g t (some (.v (nD (prod1 t)))) x5 none none none none none none none none none none none none none) w2 = .nx (E2 (.sc ns) g t (some (.v (nD (prod1 t)))) x5 (some (.v (qD 1))) none none none none none none none none none none none none) w2 := by
    unfold s_law_7
    simp [big]
    rfl
  obtain ⟨x7, q9⟩ := st9 (sc := .sc ns) hg ht (w := w2) (x4 := some (.v (nD (prod1 t)))) (x5 := x5)
  have q10 := st10 (sc := .sc ns) hg ht (w := w2) (x4 := some (.v (nD (prod1 t)))) (x5 := x5) (x7 := x7)
  obtain ⟨rolls, most, w3, h1, h2, hw3, q11⟩ := st11 (sc := .sc ns) (g := g) (A3 := some (.v (tD t))) (x4 := some (.v (nD (prod1 t)))) (x6 := some (.v (qD ((1 + g) ^ t.sum)))) (x7 := x7) hw2 x5
  have q12 : s_law_12 (E3 (.sc ns) g (some (.v (tD t))) (some (.v (nD (prod1 t)))) (some (.v (nD rolls))) (some (.v (qD ((1 + g) ^ t.sum)))) x7 (some (.v (nD most))) none none none none none none none none none none) w3 = .nx (E3 (.sc ns) g (some (.v (tD t))) (some (.v (nD (prod1 t)))) (some (.v (nD rolls))) (some (.v (qD ((1 + g) ^ t.sum)))) x7 (some (.v (nD most))) (some (.v .none)) none none none none none none none none none) w3 := rfl
  obtain ⟨x10, x15, q14⟩ := st14 (sc := .sc ns) hg (w := w3) (A3 := some (.v (tD t))) (x4 := some (.v (nD (prod1 t)))) (x6 := some (.v (qD ((1 + g) ^ t.sum)))) (x7 := x7) h1 h2
  obtain ⟨b, hbb, _, _⟩ := best_some lex g (tt_ne hg h1 h2)
  rw [hbb] at q14
  have q14 : s_law_14 _ w3 = .nx (E4 (.sc ns) g t b (some (.v (nD (prod1 t)))) (some (.v (qD ((1 + g) ^ t.sum)))) x7 rolls most x10 none none none none x15 none none none) w3 := q14
  have q15 := st15 (sc := .sc ns) hg (w := w3) (t := t) (x4 := some (.v (nD (prod1 t)))) (x6 := some (.v (qD ((1 + g) ^ t.sum)))) (x7 := x7) (x10 := x10) (x15 := x15) h1 h2 hbb
  have q16 := st16 (sc := .sc ns) hg (w := w3) (t := t) (x4 := some (.v (nD (prod1 t)))) (x6 := some (.v (qD ((1 + g) ^ t.sum)))) (x7 := x7) (x10 := x10) (x15 := x15) h1 h2 hbb
  have q17 := st17 (sc := .sc ns) hg (w := w3) (t := t) (b := b) (x4 := some (.v (nD (prod1 t)))) (x6 := some (.v (qD ((1 + g) ^ t.sum)))) (x7 := x7) (x10 := x10) (x15 := x15) h1 h2
  obtain ⟨gw, w4', hs, hge, hw4, q18⟩ := st18 (sc := .sc ns) hg (w := w3) (t := t) (b := b) (x4 := some (.v (nD (prod1 t)))) (x6 := some (.v (qD ((1 + g) ^ t.sum)))) (x7 := x7) (x10 := x10) (x15 := x15) h1 h2 (m := some (.v (toldD (best lex g (TT most (rolls + 1)))))) hw3
  have q19 := st19 (sc := .sc ns) hg (w := w4') (t := t) (x4 := some (.v (nD (prod1 t)))) (x6 := some (.v (qD ((1 + g) ^ t.sum)))) (x7 := x7) (x10 := x10) (x15 := x15) h1 h2 hbb hs hge (x11 := some (.v (tD b)))
  have q20 := st20 (sc := .sc ns) hg (w := w4') (t := t) (x4 := some (.v (nD (prod1 t)))) (x6 := some (.v (qD ((1 + g) ^ t.sum)))) (x7 := x7) (x10 := x10) (x15 := x15) h1 h2 hbb (x12 := some (.v (toldD (best lex g (TT most (rolls + 1)))))) (x13 := some (.v (qD gw)))
  obtain ⟨load, w5, hld, hw5, q21⟩ := st21 (sc := .sc ns) (g := g) (w := w4') (t := t) (x4 := some (.v (nD (prod1 t)))) (x5 := some (.v (nD rolls))) (x6 := some (.v (qD ((1 + g) ^ t.sum)))) (x7 := x7) (x8 := some (.v (nD most))) (x9 := some (.v (.tuple [qD (Lf g b), tD b]))) (x10 := x10) (x11 := some (.v (tD b))) (x12 := some (.v (toldD (best lex g (TT most (rolls + 1)))))) (x13 := some (.v (qD gw))) (x15 := x15) hw4
  obtain ⟨y, q24⟩ := st24 (sc := .sc ns) hg (w := w5) (t := t) (x4 := some (.v (nD (prod1 t)))) (x5 := some (.v (nD rolls))) (x6 := some (.v (qD ((1 + g) ^ t.sum)))) (x7 := x7) (x8 := some (.v (nD most))) (x9 := some (.v (.tuple [qD (Lf g b), tD b]))) (x10 := x10) (x11 := some (.v (tD b))) (x12 := some (.v (toldD (best lex g (TT most (rolls + 1)))))) (x13 := some (.v (qD gw))) hld 61 0 64 (by decide) (by decide)
  have q24 : s_law_24 _ w5 = _ := q24
  rw [Nat.zero_add, show kf (1 + g) load 61 ((1 + g) ^ 0) = kf (1 + g) load 61 1 by rw [Rat.pow_zero]] at q24
  have q25 := st25 (sc := .sc ns) hg (w := w5) (t := t) (x4 := some (.v (nD (prod1 t)))) (x5 := some (.v (nD rolls))) (x6 := some (.v (qD ((1 + g) ^ t.sum)))) (x7 := x7) (x8 := some (.v (nD most))) (x9 := some (.v (.tuple [qD (Lf g b), tD b]))) (x10 := x10) (x11 := some (.v (tD b))) (x12 := some (.v (toldD (best lex g (TT most (rolls + 1)))))) (x13 := some (.v (qD gw))) hld (y := y)
  have q28 := st28 (sc := .sc ns) (g := g) (w := w5) (t := t) (x4 := some (.v (nD (prod1 t)))) (x5 := some (.v (nD rolls))) (x6 := some (.v (qD ((1 + g) ^ t.sum)))) (x7 := x7) (x8 := some (.v (nD most))) (x9 := some (.v (.tuple [qD (Lf g b), tD b]))) (x10 := x10) (x11 := some (.v (tD b))) (x12 := some (.v (toldD (best lex g (TT most (rolls + 1)))))) (x13 := some (.v (qD gw))) (x14 := some (.v (qD load))) (x15 := y) (x16 := some (.v (nD (kf (1 + g) load 61 1))))
  have q29 := st29 (sc := .sc ns) hg (w := w5) (t := t) (x4 := some (.v (nD (prod1 t)))) (x5 := some (.v (nD rolls))) (x6 := some (.v (qD ((1 + g) ^ t.sum)))) (x7 := x7) (x8 := some (.v (nD most))) (x9 := some (.v (.tuple [qD (Lf g b), tD b]))) (x10 := x10) (x11 := some (.v (tD b))) (x12 := some (.v (toldD (best lex g (TT most (rolls + 1)))))) (x13 := some (.v (qD gw))) (x14 := some (.v (qD load))) (x15 := y) (x16 := some (.v (nD (kf (1 + g) load 61 1))))
  have q30 := st30 (sc := .sc ns) (g := g) (w := w5) (t := t) (x4 := some (.v (nD (prod1 t)))) (x5 := some (.v (nD rolls))) (x6 := some (.v (qD ((1 + g) ^ t.sum)))) (x7 := x7) (x8 := some (.v (nD most))) (x9 := some (.v (.tuple [qD (Lf g b), tD b]))) (x10 := x10) (x11 := some (.v (tD b))) (x12 := some (.v (toldD (best lex g (TT most (rolls + 1)))))) (x13 := some (.v (qD gw))) (x14 := some (.v (qD load))) (x15 := y) (x16 := some (.v (nD (kf (1 + g) load 61 1)))) (x17 := some (.v w4))
  have q31 := st31 (sc := .sc ns) (g := g) (w := w5) (t := t) (x4 := some (.v (nD (prod1 t)))) (x5 := some (.v (nD rolls))) (x6 := some (.v (qD ((1 + g) ^ t.sum)))) (x7 := x7) (x8 := some (.v (nD most))) (x9 := some (.v (.tuple [qD (Lf g b), tD b]))) (x10 := x10) (x11 := some (.v (tD b))) (x12 := some (.v (toldD (best lex g (TT most (rolls + 1)))))) (x13 := some (.v (qD gw))) (x14 := some (.v (qD load))) (x15 := y) (x16 := some (.v (nD (kf (1 + g) load 61 1)))) (x17 := some (.v w4))
  refine ⟨zs.map .int, [], w5, h0', ?_⟩
  rw [e0]
  unfold f_law
  rw [u_sSeq, q0, seqK_nx, u_sSeq, q2, seqK_nx, u_sSeq, q3, seqK_nx, u_sSeq, q4, seqK_nx, u_sSeq, q5, seqK_nx, u_sSeq, q6, seqK_nx, u_sSeq, q7, seqK_nx, u_sSeq, q9, seqK_nx, u_sSeq, q10, seqK_nx, u_sSeq, q11, seqK_nx, u_sSeq, q12, seqK_nx, u_sSeq, q14, seqK_nx, u_sSeq, q15, seqK_nx, u_sSeq, q16, seqK_nx, u_sSeq, q17, seqK_nx, u_sSeq, q18, seqK_nx, u_sSeq, q19, seqK_nx, u_sSeq, q20, seqK_nx, u_sSeq, q21, seqK_nx, u_sSeq, q24, seqK_nx, u_sSeq, q25, seqK_nx, u_sSeq, q28, seqK_nx, u_sSeq, q29, seqK_nx, u_sSeq, q30, seqK_nx, q31]
end K89

set_option Elab.async false
set_option linter.all false
set_option maxRecDepth 100000
set_option maxHeartbeats 4000000
namespace K89
open PySem PySem.Spec PyProof.Rows L2 DL DG
open GxR (TabB TabG)
theorem tabB_of {b : Heap} {m : Str → Option Value} {c Q : Addr} (t : LamX.TabB b m c Q) : GxR.TabB b m c Q := ⟨t.code, t.bm, t.gP⟩
theorem lookup_mem {K : PySem.W.Frag} {a : Addr} {o : Obj} (h : K.lookup a = some o) : (a, o) ∈ K := by
  induction K with
  | nil => cases h
  | cons p r ih =>
    obtain ⟨b, u⟩ := p
    have h : List.lookup a ((b, u) :: r) = some o := h
    rw [List.lookup_cons] at h
    split at h
    · rename_i q
      have q := beq_iff_eq.mp q
      cases h
      rw [q]; exact List.mem_cons_self
    · exact List.mem_cons_of_mem _ (ih h)
theorem tab_of {q : Program} {mg : Str → Option Value} {K : PySem.W.Frag} {h : Heap} {x : Str} {st : Stmt} {ps : List Str} {f : Addr} {fd : FuncData} (X : K.In h) (TB : AllTabs q mg h) (D0 : Df K mg x st ps f fd)
    (hq : ((recsOf q).any fun e => e.name == x) = true) (hn : (K.all fun p => match p.2.cls, p.2.data with | .none, .fields vs => vs.size != 0 | _, _ => true) = true) : ∃ c Q, fd.code = .ref c ∧ h.get? Q = some { cls := .none, data := .fields #[] } ∧ PySem.W.CodeHd h c Q ∧ K.lookup Q = none := by
  obtain ⟨d, hd, hn1⟩ := List.any_eq_true.mp hq
  have hn1 : d.name = x := beq_iff_eq.mp hn1
  obtain ⟨a, o, fd', c', Q', h1, h2, h3, h4, h5, h6⟩ := TB d hd
  rw [hn1, D0.gm] at h1
  cases h1
  obtain ⟨oc, od, kV, doc, pm, an, cdv, ct, osl, e1, lk, _⟩ := D0.fn.ex
  rw [X _ _ lk] at h2
  cases h2
  cases h3
  refine ⟨c', Q', h4, h6.2, PySem.W.CodeHd.of h5 h6, ?_⟩
  cases e : K.lookup Q' with
  | none => rfl
  | some o =>
    have z := List.all_eq_true.mp hn _ (lookup_mem e)
    have h62 := h6.2
    rw [X _ _ e] at h62
    cases h62
    exact absurd (show ((0 : Nat) != 0) = true from z) (by decide)
theorem all_mk {w : World} {K : PySem.W.Frag} {h : Heap} {mg : Str → Option Value} {fa : Addr} (X : K.In h) (G : h.Ns mainGlobals mg) (hfa : mg "law" = some (.ref fa)) (TB : AllTabs PySem.Challenge.rw_campslaid_k89_whole_tackles_that_lift.prog mg h)
    {t_MOST_FEWEST : Tok} {t_MOST_PARTS : Tok} {t_MOST_ROLLS : Tok} {t_MOST_TOGETHER : Tok} {a_Malformed : Addr} {a_NotThere : Addr} {a_OutOfRange : Addr} {a_Refused : Addr} {a_TooMuch : Addr} {a_CampError : Addr} {fA_is_number : Addr} {oc_is_number kV_is_number dc_is_number pm_is_number cd_is_number ct_is_number : Value} {od_is_number an_is_number : Option Addr} {sl_is_number : Array (Option Value)} {fA_lowest : Addr} {oc_lowest kV_lowest dc_lowest pm_lowest cd_lowest ct_lowest : Value} {od_lowest an_lowest : Option Addr} {sl_lowest : Array (Option Value)} {fA_plus : Addr} {oc_plus kV_plus dc_plus pm_plus cd_plus ct_plus : Value} {od_plus an_plus : Option Addr} {sl_plus : Array (Option Value)} {fA_times : Addr} {oc_times kV_times dc_times pm_times cd_times ct_times : Value} {od_times an_times : Option Addr} {sl_times : Array (Option Value)} {fA_less : Addr} {oc_less kV_less dc_less pm_less cd_less ct_less : Value} {od_less an_less : Option Addr} {sl_less : Array (Option Value)} {fA_is_tackle : Addr} {oc_is_tackle kV_is_tackle dc_is_tackle pm_is_tackle cd_is_tackle ct_is_tackle : Value} {od_is_tackle an_is_tackle : Option Addr} {sl_is_tackle : Array (Option Value)} {fA_part_lifts : Addr} {oc_part_lifts kV_part_lifts dc_part_lifts pm_part_lifts cd_part_lifts ct_part_lifts : Value} {od_part_lifts an_part_lifts : Option Addr} {sl_part_lifts : Array (Option Value)} {fA_lifts : Addr} {oc_lifts kV_lifts dc_lifts pm_lifts cd_lifts ct_lifts : Value} {od_lifts an_lifts : Option Addr} {sl_lifts : Array (Option Value)} {fA_tackles_of : Addr} {oc_tackles_of kV_tackles_of dc_tackles_of pm_tackles_of cd_tackles_of ct_tackles_of : Value} {od_tackles_of an_tackles_of : Option Addr} {sl_tackles_of : Array (Option Value)} {fA_is_better : Addr} {oc_is_better kV_is_better dc_is_better pm_is_better cd_is_better ct_is_better : Value} {od_is_better an_is_better : Option Addr} {sl_is_better : Array (Option Value)} {fA_best_tackle : Addr} {oc_best_tackle kV_best_tackle dc_best_tackle pm_best_tackle cd_best_tackle ct_best_tackle : Value} {od_best_tackle an_best_tackle : Option Addr} {sl_best_tackle : Array (Option Value)} {fA_fewest_rolls : Addr} {oc_fewest_rolls kV_fewest_rolls dc_fewest_rolls pm_fewest_rolls cd_fewest_rolls ct_fewest_rolls : Value} {od_fewest_rolls an_fewest_rolls : Option Addr} {sl_fewest_rolls : Array (Option Value)} {fA__law_draws : Addr} {oc__law_draws kV__law_draws dc__law_draws pm__law_draws cd__law_draws ct__law_draws : Value} {od__law_draws an__law_draws : Option Addr} {sl__law_draws : Array (Option Value)} {fA__law_take : Addr} {oc__law_take kV__law_take dc__law_take pm__law_take cd__law_take ct__law_take : Value} {od__law_take an__law_take : Option Addr} {sl__law_take : Array (Option Value)} {fA__law_says : Addr} {oc__law_says kV__law_says dc__law_says pm__law_says cd__law_says ct__law_says : Value} {od__law_says an__law_says : Option Addr} {sl__law_says : Array (Option Value)} {fA__law_alike : Addr} {oc__law_alike kV__law_alike dc__law_alike pm__law_alike cd__law_alike ct__law_alike : Value} {od__law_alike an__law_alike : Option Addr} {sl__law_alike : Array (Option Value)} {fA__law_word : Addr} {oc__law_word kV__law_word dc__law_word pm__law_word cd__law_word ct__law_word : Value} {od__law_word an__law_word : Option Addr} {sl__law_word : Array (Option Value)} {fA__law_gcd : Addr} {oc__law_gcd kV__law_gcd dc__law_gcd pm__law_gcd cd__law_gcd ct__law_gcd : Value} {od__law_gcd an__law_gcd : Option Addr} {sl__law_gcd : Array (Option Value)} {fA__law_part : Addr} {oc__law_part kV__law_part dc__law_part pm__law_part cd__law_part ct__law_part : Value} {od__law_part an__law_part : Option Addr} {sl__law_part : Array (Option Value)} {fA__law_plus : Addr} {oc__law_plus kV__law_plus dc__law_plus pm__law_plus cd__law_plus ct__law_plus : Value} {od__law_plus an__law_plus : Option Addr} {sl__law_plus : Array (Option Value)} {fA__law_minus : Addr} {oc__law_minus kV__law_minus dc__law_minus pm__law_minus cd__law_minus ct__law_minus : Value} {od__law_minus an__law_minus : Option Addr} {sl__law_minus : Array (Option Value)} {fA__law_times : Addr} {oc__law_times kV__law_times dc__law_times pm__law_times cd__law_times ct__law_times : Value} {od__law_times an__law_times : Option Addr} {sl__law_times : Array (Option Value)} {fA__law_less : Addr} {oc__law_less kV__law_less dc__law_less pm__law_less cd__law_less ct__law_less : Value} {od__law_less an__law_less : Option Addr} {sl__law_less : Array (Option Value)} {fA__law_sum : Addr} {oc__law_sum kV__law_sum dc__law_sum pm__law_sum cd__law_sum ct__law_sum : Value} {od__law_sum an__law_sum : Option Addr} {sl__law_sum : Array (Option Value)} {fA__law_told : Addr} {oc__law_told kV__law_told dc__law_told pm__law_told cd__law_told ct__law_told : Value} {od__law_told an__law_told : Option Addr} {sl__law_told : Array (Option Value)} {fA__law_lifts : Addr} {oc__law_lifts kV__law_lifts dc__law_lifts pm__law_lifts cd__law_lifts ct__law_lifts : Value} {od__law_lifts an__law_lifts : Option Addr} {sl__law_lifts : Array (Option Value)} {fA__law_tackles : Addr} {oc__law_tackles kV__law_tackles dc__law_tackles pm__law_tackles cd__law_tackles ct__law_tackles : Value} {od__law_tackles an__law_tackles : Option Addr} {sl__law_tackles : Array (Option Value)} {fA_law : Addr} {oc_law kV_law dc_law pm_law cd_law ct_law : Value} {od_law an_law : Option Addr} {sl_law : Array (Option Value)}
    (nb_abs : PySem.W.nsIn K mainGlobals "abs" = some none)
    (nb_all : PySem.W.nsIn K mainGlobals "all" = some none)
    (nb_bool : PySem.W.nsIn K mainGlobals "bool" = some none)
    (nb_int : PySem.W.nsIn K mainGlobals "int" = some none)
    (nb_isinstance : PySem.W.nsIn K mainGlobals "isinstance" = some none)
    (nb_len : PySem.W.nsIn K mainGlobals "len" = some none)
    (nb_list : PySem.W.nsIn K mainGlobals "list" = some none)
    (nb_min : PySem.W.nsIn K mainGlobals "min" = some none)
    (nb_range : PySem.W.nsIn K mainGlobals "range" = some none)
    (nb_reversed : PySem.W.nsIn K mainGlobals "reversed" = some none)
    (nb_str : PySem.W.nsIn K mainGlobals "str" = some none)
    (nb_sum : PySem.W.nsIn K mainGlobals "sum" = some none)
    (nb_tuple : PySem.W.nsIn K mainGlobals "tuple" = some none)
    (nf_gcd : PySem.W.nsIn K mainGlobals "gcd" = some (some (.builtin "math.gcd")))
    (nc_MOST_FEWEST : PySem.W.nsIn K mainGlobals "MOST_FEWEST" = some (some (.int 60 t_MOST_FEWEST)))
    (nc_MOST_PARTS : PySem.W.nsIn K mainGlobals "MOST_PARTS" = some (some (.int 4 t_MOST_PARTS)))
    (nc_MOST_ROLLS : PySem.W.nsIn K mainGlobals "MOST_ROLLS" = some (some (.int 8 t_MOST_ROLLS)))
    (nc_MOST_TOGETHER : PySem.W.nsIn K mainGlobals "MOST_TOGETHER" = some (some (.int 10 t_MOST_TOGETHER)))
    (ne_Malformed : PySem.W.nsIn K mainGlobals "Malformed" = some (some (.ref a_Malformed)))
    (ne_NotThere : PySem.W.nsIn K mainGlobals "NotThere" = some (some (.ref a_NotThere)))
    (ne_OutOfRange : PySem.W.nsIn K mainGlobals "OutOfRange" = some (some (.ref a_OutOfRange)))
    (sb_OutOfRange : PySem.W.subIn K (.ref a_OutOfRange) (.type "BaseException") = some true)
    (ty_OutOfRange : PySem.W.typeIn K (.ref a_OutOfRange) = some (.type "type"))
    (hd_OutOfRange : PySem.W.hasDictIn K a_OutOfRange = true)
    (ne_Refused : PySem.W.nsIn K mainGlobals "Refused" = some (some (.ref a_Refused)))
    (sb_Refused : PySem.W.subIn K (.ref a_Refused) (.type "BaseException") = some true)
    (ty_Refused : PySem.W.typeIn K (.ref a_Refused) = some (.type "type"))
    (hd_Refused : PySem.W.hasDictIn K a_Refused = true)
    (ne_TooMuch : PySem.W.nsIn K mainGlobals "TooMuch" = some (some (.ref a_TooMuch)))
    (sb_TooMuch : PySem.W.subIn K (.ref a_TooMuch) (.type "BaseException") = some true)
    (ty_TooMuch : PySem.W.typeIn K (.ref a_TooMuch) = some (.type "type"))
    (hd_TooMuch : PySem.W.hasDictIn K a_TooMuch = true)
    (ne_CampError : PySem.W.nsIn K mainGlobals "CampError" = some (some (.ref a_CampError)))
    (sb_CampError : PySem.W.subIn K (.ref a_CampError) (.type "BaseException") = some true)
    (ty_CampError : PySem.W.typeIn K (.ref a_CampError) = some (.type "type"))
    (hd_CampError : PySem.W.hasDictIn K a_CampError = true)
    (q_OutOfRange : PySem.W.excIn K a_OutOfRange [.type "ValueError", .type "Exception", .type "BaseException", .type "object"] "ValueError.__new__" = true)
    (kp_OutOfRange : PySem.W.keepIn K (.ref a_OutOfRange) = true)
    (hg_OutOfRange : PySem.W.findIn K (.ref a_OutOfRange) "__getattribute__" = some (some (.builtin "BaseException.__getattribute__")))
    (hk_OutOfRange : PySem.W.findIn K (.ref a_OutOfRange) "__getattr__" = some none)
    (ha_OutOfRange : PySem.W.findIn K (.ref a_OutOfRange) "__class__" = some (some (.builtin "object.__class__")))
    (hm_OutOfRange : PySem.W.mroIn K a_OutOfRange (.type "object") = some true)
    (sx_OutOfRange_CampError : PySem.W.subIn K (.ref a_OutOfRange) (.ref a_CampError) = some true)
    (q_Refused : PySem.W.excIn K a_Refused [.type "ValueError", .type "Exception", .type "BaseException", .type "object"] "ValueError.__new__" = true)
    (kp_Refused : PySem.W.keepIn K (.ref a_Refused) = true)
    (hg_Refused : PySem.W.findIn K (.ref a_Refused) "__getattribute__" = some (some (.builtin "BaseException.__getattribute__")))
    (hk_Refused : PySem.W.findIn K (.ref a_Refused) "__getattr__" = some none)
    (ha_Refused : PySem.W.findIn K (.ref a_Refused) "__class__" = some (some (.builtin "object.__class__")))
    (hm_Refused : PySem.W.mroIn K a_Refused (.type "object") = some true)
    (sx_Refused_CampError : PySem.W.subIn K (.ref a_Refused) (.ref a_CampError) = some true)
    (q_TooMuch : PySem.W.excIn K a_TooMuch [.type "ValueError", .type "Exception", .type "BaseException", .type "object"] "ValueError.__new__" = true)
    (kp_TooMuch : PySem.W.keepIn K (.ref a_TooMuch) = true)
    (hg_TooMuch : PySem.W.findIn K (.ref a_TooMuch) "__getattribute__" = some (some (.builtin "BaseException.__getattribute__")))
    (hk_TooMuch : PySem.W.findIn K (.ref a_TooMuch) "__getattr__" = some none)
    (ha_TooMuch : PySem.W.findIn K (.ref a_TooMuch) "__class__" = some (some (.builtin "object.__class__")))
    (hm_TooMuch : PySem.W.mroIn K a_TooMuch (.type "object") = some true)
    (sx_TooMuch_CampError : PySem.W.subIn K (.ref a_TooMuch) (.ref a_CampError) = some true)
    (ki_OutOfRange_Malformed : PySem.W.kitOne K (.ref a_OutOfRange) (.ref a_Malformed) = some false)
    (ki_OutOfRange_NotThere : PySem.W.kitOne K (.ref a_OutOfRange) (.ref a_NotThere) = some false)
    (ki_OutOfRange_Refused : PySem.W.kitOne K (.ref a_OutOfRange) (.ref a_Refused) = some false)
    (ki_OutOfRange_TooMuch : PySem.W.kitOne K (.ref a_OutOfRange) (.ref a_TooMuch) = some false)
    (ki_Refused_Malformed : PySem.W.kitOne K (.ref a_Refused) (.ref a_Malformed) = some false)
    (ki_Refused_NotThere : PySem.W.kitOne K (.ref a_Refused) (.ref a_NotThere) = some false)
    (ki_Refused_OutOfRange : PySem.W.kitOne K (.ref a_Refused) (.ref a_OutOfRange) = some false)
    (ki_Refused_TooMuch : PySem.W.kitOne K (.ref a_Refused) (.ref a_TooMuch) = some false)
    (ki_TooMuch_Malformed : PySem.W.kitOne K (.ref a_TooMuch) (.ref a_Malformed) = some false)
    (ki_TooMuch_NotThere : PySem.W.kitOne K (.ref a_TooMuch) (.ref a_NotThere) = some false)
    (ki_TooMuch_OutOfRange : PySem.W.kitOne K (.ref a_TooMuch) (.ref a_OutOfRange) = some false)
    (ki_TooMuch_Refused : PySem.W.kitOne K (.ref a_TooMuch) (.ref a_Refused) = some false)
    (hn_ : PySem.W.specialIn K (.builtin "object.__class__") "__get__" = some (some (.builtin "getset_descriptor.__get__")))
    (ht_ : PySem.W.takesIn K (.builtin "object.__class__") = some true)
    (a_d_is_number : PySem.W.nsIn K mainGlobals "is_number" = some (some (.ref fA_is_number)))
    (l_is_number : K.lookup fA_is_number = some ⟨oc_is_number, od_is_number, .func (PySem.W.fnOf "is_number" "is_number" (defArgs st_is_number) (defBody st_is_number) (defScope st_is_number) .none kV_is_number dc_is_number pm_is_number an_is_number (cd_is_number) ct_is_number), sl_is_number⟩)
    (cc_is_number : PySem.W.codeIn K (cd_is_number) "is_number" = true)
    (kk_is_number : PySem.W.keepIn K (.ref fA_is_number) = true)
    (a_d_lowest : PySem.W.nsIn K mainGlobals "lowest" = some (some (.ref fA_lowest)))
    (l_lowest : K.lookup fA_lowest = some ⟨oc_lowest, od_lowest, .func (PySem.W.fnOf "lowest" "lowest" (defArgs st_lowest) (defBody st_lowest) (defScope st_lowest) .none kV_lowest dc_lowest pm_lowest an_lowest (cd_lowest) ct_lowest), sl_lowest⟩)
    (cc_lowest : PySem.W.codeIn K (cd_lowest) "lowest" = true)
    (kk_lowest : PySem.W.keepIn K (.ref fA_lowest) = true)
    (a_d_plus : PySem.W.nsIn K mainGlobals "plus" = some (some (.ref fA_plus)))
    (l_plus : K.lookup fA_plus = some ⟨oc_plus, od_plus, .func (PySem.W.fnOf "plus" "plus" (defArgs st_plus) (defBody st_plus) (defScope st_plus) .none kV_plus dc_plus pm_plus an_plus (cd_plus) ct_plus), sl_plus⟩)
    (cc_plus : PySem.W.codeIn K (cd_plus) "plus" = true)
    (kk_plus : PySem.W.keepIn K (.ref fA_plus) = true)
    (a_d_times : PySem.W.nsIn K mainGlobals "times" = some (some (.ref fA_times)))
    (l_times : K.lookup fA_times = some ⟨oc_times, od_times, .func (PySem.W.fnOf "times" "times" (defArgs st_times) (defBody st_times) (defScope st_times) .none kV_times dc_times pm_times an_times (cd_times) ct_times), sl_times⟩)
    (cc_times : PySem.W.codeIn K (cd_times) "times" = true)
    (kk_times : PySem.W.keepIn K (.ref fA_times) = true)
    (a_d_less : PySem.W.nsIn K mainGlobals "less" = some (some (.ref fA_less)))
    (l_less : K.lookup fA_less = some ⟨oc_less, od_less, .func (PySem.W.fnOf "less" "less" (defArgs st_less) (defBody st_less) (defScope st_less) .none kV_less dc_less pm_less an_less (cd_less) ct_less), sl_less⟩)
    (cc_less : PySem.W.codeIn K (cd_less) "less" = true)
    (kk_less : PySem.W.keepIn K (.ref fA_less) = true)
    (a_d_is_tackle : PySem.W.nsIn K mainGlobals "is_tackle" = some (some (.ref fA_is_tackle)))
    (l_is_tackle : K.lookup fA_is_tackle = some ⟨oc_is_tackle, od_is_tackle, .func (PySem.W.fnOf "is_tackle" "is_tackle" (defArgs st_is_tackle) (defBody st_is_tackle) (defScope st_is_tackle) .none kV_is_tackle dc_is_tackle pm_is_tackle an_is_tackle (cd_is_tackle) ct_is_tackle), sl_is_tackle⟩)
    (cc_is_tackle : PySem.W.codeIn K (cd_is_tackle) "is_tackle" = true)
    (kk_is_tackle : PySem.W.keepIn K (.ref fA_is_tackle) = true)
    (a_d_part_lifts : PySem.W.nsIn K mainGlobals "part_lifts" = some (some (.ref fA_part_lifts)))
    (l_part_lifts : K.lookup fA_part_lifts = some ⟨oc_part_lifts, od_part_lifts, .func (PySem.W.fnOf "part_lifts" "part_lifts" (defArgs st_part_lifts) (defBody st_part_lifts) (defScope st_part_lifts) .none kV_part_lifts dc_part_lifts pm_part_lifts an_part_lifts (cd_part_lifts) ct_part_lifts), sl_part_lifts⟩)
    (cc_part_lifts : PySem.W.codeIn K (cd_part_lifts) "part_lifts" = true)
    (kk_part_lifts : PySem.W.keepIn K (.ref fA_part_lifts) = true)
    (a_d_lifts : PySem.W.nsIn K mainGlobals "lifts" = some (some (.ref fA_lifts)))
    (l_lifts : K.lookup fA_lifts = some ⟨oc_lifts, od_lifts, .func (PySem.W.fnOf "lifts" "lifts" (defArgs st_lifts) (defBody st_lifts) (defScope st_lifts) .none kV_lifts dc_lifts pm_lifts an_lifts (cd_lifts) ct_lifts), sl_lifts⟩)
    (cc_lifts : PySem.W.codeIn K (cd_lifts) "lifts" = true)
    (kk_lifts : PySem.W.keepIn K (.ref fA_lifts) = true)
    (a_d_tackles_of : PySem.W.nsIn K mainGlobals "tackles_of" = some (some (.ref fA_tackles_of)))
    (l_tackles_of : K.lookup fA_tackles_of = some ⟨oc_tackles_of, od_tackles_of, .func (PySem.W.fnOf "tackles_of" "tackles_of" (defArgs st_tackles_of) (defBody st_tackles_of) (defScope st_tackles_of) .none kV_tackles_of dc_tackles_of pm_tackles_of an_tackles_of (cd_tackles_of) ct_tackles_of), sl_tackles_of⟩)
    (cc_tackles_of : PySem.W.codeIn K (cd_tackles_of) "tackles_of" = true)
    (kk_tackles_of : PySem.W.keepIn K (.ref fA_tackles_of) = true)
    (a_d_is_better : PySem.W.nsIn K mainGlobals "is_better" = some (some (.ref fA_is_better)))
    (l_is_better : K.lookup fA_is_better = some ⟨oc_is_better, od_is_better, .func (PySem.W.fnOf "is_better" "is_better" (defArgs st_is_better) (defBody st_is_better) (defScope st_is_better) .none kV_is_better dc_is_better pm_is_better an_is_better (cd_is_better) ct_is_better), sl_is_better⟩)
    (cc_is_better : PySem.W.codeIn K (cd_is_better) "is_better" = true)
    (kk_is_better : PySem.W.keepIn K (.ref fA_is_better) = true)
    (a_d_best_tackle : PySem.W.nsIn K mainGlobals "best_tackle" = some (some (.ref fA_best_tackle)))
    (l_best_tackle : K.lookup fA_best_tackle = some ⟨oc_best_tackle, od_best_tackle, .func (PySem.W.fnOf "best_tackle" "best_tackle" (defArgs st_best_tackle) (defBody st_best_tackle) (defScope st_best_tackle) .none kV_best_tackle dc_best_tackle pm_best_tackle an_best_tackle (cd_best_tackle) ct_best_tackle), sl_best_tackle⟩)
    (cc_best_tackle : PySem.W.codeIn K (cd_best_tackle) "best_tackle" = true)
    (kk_best_tackle : PySem.W.keepIn K (.ref fA_best_tackle) = true)
    (a_d_fewest_rolls : PySem.W.nsIn K mainGlobals "fewest_rolls" = some (some (.ref fA_fewest_rolls)))
    (l_fewest_rolls : K.lookup fA_fewest_rolls = some ⟨oc_fewest_rolls, od_fewest_rolls, .func (PySem.W.fnOf "fewest_rolls" "fewest_rolls" (defArgs st_fewest_rolls) (defBody st_fewest_rolls) (defScope st_fewest_rolls) .none kV_fewest_rolls dc_fewest_rolls pm_fewest_rolls an_fewest_rolls (cd_fewest_rolls) ct_fewest_rolls), sl_fewest_rolls⟩)
    (cc_fewest_rolls : PySem.W.codeIn K (cd_fewest_rolls) "fewest_rolls" = true)
    (kk_fewest_rolls : PySem.W.keepIn K (.ref fA_fewest_rolls) = true)
    (a_d__law_draws : PySem.W.nsIn K mainGlobals "_law_draws" = some (some (.ref fA__law_draws)))
    (l__law_draws : K.lookup fA__law_draws = some ⟨oc__law_draws, od__law_draws, .func (PySem.W.fnOf "_law_draws" "_law_draws" (defArgs st__law_draws) (defBody st__law_draws) (defScope st__law_draws) .none kV__law_draws dc__law_draws pm__law_draws an__law_draws (cd__law_draws) ct__law_draws), sl__law_draws⟩)
    (cc__law_draws : PySem.W.codeIn K (cd__law_draws) "_law_draws" = true)
    (kk__law_draws : PySem.W.keepIn K (.ref fA__law_draws) = true)
    (a_d__law_take : PySem.W.nsIn K mainGlobals "_law_take" = some (some (.ref fA__law_take)))
    (l__law_take : K.lookup fA__law_take = some ⟨oc__law_take, od__law_take, .func (PySem.W.fnOf "_law_take" "_law_take" (defArgs st__law_take) (defBody st__law_take) (defScope st__law_take) .none kV__law_take dc__law_take pm__law_take an__law_take (cd__law_take) ct__law_take), sl__law_take⟩)
    (cc__law_take : PySem.W.codeIn K (cd__law_take) "_law_take" = true)
    (kk__law_take : PySem.W.keepIn K (.ref fA__law_take) = true)
    (a_d__law_says : PySem.W.nsIn K mainGlobals "_law_says" = some (some (.ref fA__law_says)))
    (l__law_says : K.lookup fA__law_says = some ⟨oc__law_says, od__law_says, .func (PySem.W.fnOf "_law_says" "_law_says" (defArgs st__law_says) (defBody st__law_says) (defScope st__law_says) .none kV__law_says dc__law_says pm__law_says an__law_says (cd__law_says) ct__law_says), sl__law_says⟩)
    (cc__law_says : PySem.W.codeIn K (cd__law_says) "_law_says" = true)
    (kk__law_says : PySem.W.keepIn K (.ref fA__law_says) = true)
    (a_d__law_alike : PySem.W.nsIn K mainGlobals "_law_alike" = some (some (.ref fA__law_alike)))
    (l__law_alike : K.lookup fA__law_alike = some ⟨oc__law_alike, od__law_alike, .func (PySem.W.fnOf "_law_alike" "_law_alike" (defArgs st__law_alike) (defBody st__law_alike) (defScope st__law_alike) .none kV__law_alike dc__law_alike pm__law_alike an__law_alike (cd__law_alike) ct__law_alike), sl__law_alike⟩)
    (cc__law_alike : PySem.W.codeIn K (cd__law_alike) "_law_alike" = true)
    (kk__law_alike : PySem.W.keepIn K (.ref fA__law_alike) = true)
    (a_d__law_word : PySem.W.nsIn K mainGlobals "_law_word" = some (some (.ref fA__law_word)))
    (l__law_word : K.lookup fA__law_word = some ⟨oc__law_word, od__law_word, .func (PySem.W.fnOf "_law_word" "_law_word" (defArgs st__law_word) (defBody st__law_word) (defScope st__law_word) .none kV__law_word dc__law_word pm__law_word an__law_word (cd__law_word) ct__law_word), sl__law_word⟩)
    (cc__law_word : PySem.W.codeIn K (cd__law_word) "_law_word" = true)
    (kk__law_word : PySem.W.keepIn K (.ref fA__law_word) = true)
    (a_d__law_gcd : PySem.W.nsIn K mainGlobals "_law_gcd" = some (some (.ref fA__law_gcd)))
    (l__law_gcd : K.lookup fA__law_gcd = some ⟨oc__law_gcd, od__law_gcd, .func (PySem.W.fnOf "_law_gcd" "_law_gcd" (defArgs st__law_gcd) (defBody st__law_gcd) (defScope st__law_gcd) .none kV__law_gcd dc__law_gcd pm__law_gcd an__law_gcd (cd__law_gcd) ct__law_gcd), sl__law_gcd⟩)
    (cc__law_gcd : PySem.W.codeIn K (cd__law_gcd) "_law_gcd" = true)
    (kk__law_gcd : PySem.W.keepIn K (.ref fA__law_gcd) = true)
    (a_d__law_part : PySem.W.nsIn K mainGlobals "_law_part" = some (some (.ref fA__law_part)))
    (l__law_part : K.lookup fA__law_part = some ⟨oc__law_part, od__law_part, .func (PySem.W.fnOf "_law_part" "_law_part" (defArgs st__law_part) (defBody st__law_part) (defScope st__law_part) .none kV__law_part dc__law_part pm__law_part an__law_part (cd__law_part) ct__law_part), sl__law_part⟩)
    (cc__law_part : PySem.W.codeIn K (cd__law_part) "_law_part" = true)
    (kk__law_part : PySem.W.keepIn K (.ref fA__law_part) = true)
    (a_d__law_plus : PySem.W.nsIn K mainGlobals "_law_plus" = some (some (.ref fA__law_plus)))
    (l__law_plus : K.lookup fA__law_plus = some ⟨oc__law_plus, od__law_plus, .func (PySem.W.fnOf "_law_plus" "_law_plus" (defArgs st__law_plus) (defBody st__law_plus) (defScope st__law_plus) .none kV__law_plus dc__law_plus pm__law_plus an__law_plus (cd__law_plus) ct__law_plus), sl__law_plus⟩)
    (cc__law_plus : PySem.W.codeIn K (cd__law_plus) "_law_plus" = true)
    (kk__law_plus : PySem.W.keepIn K (.ref fA__law_plus) = true)
    (a_d__law_minus : PySem.W.nsIn K mainGlobals "_law_minus" = some (some (.ref fA__law_minus)))
    (l__law_minus : K.lookup fA__law_minus = some ⟨oc__law_minus, od__law_minus, .func (PySem.W.fnOf "_law_minus" "_law_minus" (defArgs st__law_minus) (defBody st__law_minus) (defScope st__law_minus) .none kV__law_minus dc__law_minus pm__law_minus an__law_minus (cd__law_minus) ct__law_minus), sl__law_minus⟩)
    (cc__law_minus : PySem.W.codeIn K (cd__law_minus) "_law_minus" = true)
    (kk__law_minus : PySem.W.keepIn K (.ref fA__law_minus) = true)
    (a_d__law_times : PySem.W.nsIn K mainGlobals "_law_times" = some (some (.ref fA__law_times)))
    (l__law_times : K.lookup fA__law_times = some ⟨oc__law_times, od__law_times, .func (PySem.W.fnOf "_law_times" "_law_times" (defArgs st__law_times) (defBody st__law_times) (defScope st__law_times) .none kV__law_times dc__law_times pm__law_times an__law_times (cd__law_times) ct__law_times), sl__law_times⟩)
    (cc__law_times : PySem.W.codeIn K (cd__law_times) "_law_times" = true)
    (kk__law_times : PySem.W.keepIn K (.ref fA__law_times) = true)
    (a_d__law_less : PySem.W.nsIn K mainGlobals "_law_less" = some (some (.ref fA__law_less)))
    (l__law_less : K.lookup fA__law_less = some ⟨oc__law_less, od__law_less, .func (PySem.W.fnOf "_law_less" "_law_less" (defArgs st__law_less) (defBody st__law_less) (defScope st__law_less) .none kV__law_less dc__law_less pm__law_less an__law_less (cd__law_less) ct__law_less), sl__law_less⟩)
    (cc__law_less : PySem.W.codeIn K (cd__law_less) "_law_less" = true)
    (kk__law_less : PySem.W.keepIn K (.ref fA__law_less) = true)
    (a_d__law_sum : PySem.W.nsIn K mainGlobals "_law_sum" = some (some (.ref fA__law_sum)))
    (l__law_sum : K.lookup fA__law_sum = some ⟨oc__law_sum, od__law_sum, .func (PySem.W.fnOf "_law_sum" "_law_sum" (defArgs st__law_sum) (defBody st__law_sum) (defScope st__law_sum) .none kV__law_sum dc__law_sum pm__law_sum an__law_sum (cd__law_sum) ct__law_sum), sl__law_sum⟩)
    (cc__law_sum : PySem.W.codeIn K (cd__law_sum) "_law_sum" = true)
    (kk__law_sum : PySem.W.keepIn K (.ref fA__law_sum) = true)
    (a_d__law_told : PySem.W.nsIn K mainGlobals "_law_told" = some (some (.ref fA__law_told)))
    (l__law_told : K.lookup fA__law_told = some ⟨oc__law_told, od__law_told, .func (PySem.W.fnOf "_law_told" "_law_told" (defArgs st__law_told) (defBody st__law_told) (defScope st__law_told) .none kV__law_told dc__law_told pm__law_told an__law_told (cd__law_told) ct__law_told), sl__law_told⟩)
    (cc__law_told : PySem.W.codeIn K (cd__law_told) "_law_told" = true)
    (kk__law_told : PySem.W.keepIn K (.ref fA__law_told) = true)
    (a_d__law_lifts : PySem.W.nsIn K mainGlobals "_law_lifts" = some (some (.ref fA__law_lifts)))
    (l__law_lifts : K.lookup fA__law_lifts = some ⟨oc__law_lifts, od__law_lifts, .func (PySem.W.fnOf "_law_lifts" "_law_lifts" (defArgs st__law_lifts) (defBody st__law_lifts) (defScope st__law_lifts) .none kV__law_lifts dc__law_lifts pm__law_lifts an__law_lifts (cd__law_lifts) ct__law_lifts), sl__law_lifts⟩)
    (cc__law_lifts : PySem.W.codeIn K (cd__law_lifts) "_law_lifts" = true)
    (kk__law_lifts : PySem.W.keepIn K (.ref fA__law_lifts) = true)
    (a_d__law_tackles : PySem.W.nsIn K mainGlobals "_law_tackles" = some (some (.ref fA__law_tackles)))
    (l__law_tackles : K.lookup fA__law_tackles = some ⟨oc__law_tackles, od__law_tackles, .func (PySem.W.fnOf "_law_tackles" "_law_tackles" (defArgs st__law_tackles) (defBody st__law_tackles) (defScope st__law_tackles) .none kV__law_tackles dc__law_tackles pm__law_tackles an__law_tackles (cd__law_tackles) ct__law_tackles), sl__law_tackles⟩)
    (cc__law_tackles : PySem.W.codeIn K (cd__law_tackles) "_law_tackles" = true)
    (kk__law_tackles : PySem.W.keepIn K (.ref fA__law_tackles) = true)
    (a_d_law : PySem.W.nsIn K mainGlobals "law" = some (some (.ref fA_law)))
    (l_law : K.lookup fA_law = some ⟨oc_law, od_law, .func (PySem.W.fnOf "law" "law" (defArgs st_law) (defBody st_law) (defScope st_law) .none kV_law dc_law pm_law an_law (cd_law) ct_law), sl_law⟩)
    (cc_law : PySem.W.codeIn K (cd_law) "law" = true)
    (kk_law : PySem.W.keepIn K (.ref fA_law) = true)
    (nt_ : (K.all fun p => match p.2.cls, p.2.data with | .none, .fields vs => vs.size != 0 | _, _ => true) = true) :
    LamX.LawAtS PySem.Challenge.rw_campslaid_k89_whole_tackles_that_lift w K (L2N.CX PySem.Challenge.rw_campslaid_k89_whole_tackles_that_lift.prog w) 8 63 "script" mg fa h := by
  have e := hfa.symm.trans (PySem.W.mg_of X G a_d_law)
  cases e
  have F_is_number := fun_mk (st := st_is_number) l_is_number cc_is_number kk_is_number
  have D_is_number : Df K mg "is_number" st_is_number ["value", "least", "most"] _ _ := ⟨F_is_number, PySem.W.mg_of X G a_d_is_number, F_is_number.binds fun _ _ _ _ _ _ us hl => match us, hl with | [_, _, _], _ => rfl⟩
  have F_lowest := fun_mk (st := st_lowest) l_lowest cc_lowest kk_lowest
  have D_lowest : Df K mg "lowest" st_lowest ["part", "whole"] _ _ := ⟨F_lowest, PySem.W.mg_of X G a_d_lowest, F_lowest.binds fun _ _ _ _ _ _ us hl => match us, hl with | [_, _], _ => rfl⟩
  have F_plus := fun_mk (st := st_plus) l_plus cc_plus kk_plus
  have D_plus : Df K mg "plus" st_plus ["one", "other"] _ _ := ⟨F_plus, PySem.W.mg_of X G a_d_plus, F_plus.binds fun _ _ _ _ _ _ us hl => match us, hl with | [_, _], _ => rfl⟩
  have F_times := fun_mk (st := st_times) l_times cc_times kk_times
  have D_times : Df K mg "times" st_times ["one", "other"] _ _ := ⟨F_times, PySem.W.mg_of X G a_d_times, F_times.binds fun _ _ _ _ _ _ us hl => match us, hl with | [_, _], _ => rfl⟩
  have F_less := fun_mk (st := st_less) l_less cc_less kk_less
  have D_less : Df K mg "less" st_less ["one", "other"] _ _ := ⟨F_less, PySem.W.mg_of X G a_d_less, F_less.binds fun _ _ _ _ _ _ us hl => match us, hl with | [_, _], _ => rfl⟩
  have F_is_tackle := fun_mk (st := st_is_tackle) l_is_tackle cc_is_tackle kk_is_tackle
  have D_is_tackle : Df K mg "is_tackle" st_is_tackle ["value"] _ _ := ⟨F_is_tackle, PySem.W.mg_of X G a_d_is_tackle, F_is_tackle.binds fun _ _ _ _ _ _ us hl => match us, hl with | [_], _ => rfl⟩
  have F_part_lifts := fun_mk (st := st_part_lifts) l_part_lifts cc_part_lifts kk_part_lifts
  have D_part_lifts : Df K mg "part_lifts" st_part_lifts ["rolls", "grip"] _ _ := ⟨F_part_lifts, PySem.W.mg_of X G a_d_part_lifts, F_part_lifts.binds fun _ _ _ _ _ _ us hl => match us, hl with | [_, _], _ => rfl⟩
  have F_lifts := fun_mk (st := st_lifts) l_lifts cc_lifts kk_lifts
  have D_lifts : Df K mg "lifts" st_lifts ["tackle", "grip"] _ _ := ⟨F_lifts, PySem.W.mg_of X G a_d_lifts, F_lifts.binds fun _ _ _ _ _ _ us hl => match us, hl with | [_, _], _ => rfl⟩
  have F_tackles_of := fun_mk (st := st_tackles_of) l_tackles_of cc_tackles_of kk_tackles_of
  have D_tackles_of : Df K mg "tackles_of" st_tackles_of ["rolls", "most"] _ _ := ⟨F_tackles_of, PySem.W.mg_of X G a_d_tackles_of, F_tackles_of.binds fun _ _ _ _ _ _ us hl => match us, hl with | [_, _], _ => rfl⟩
  have F_is_better := fun_mk (st := st_is_better) l_is_better cc_is_better kk_is_better
  have D_is_better : Df K mg "is_better" st_is_better ["grip", "one", "other"] _ _ := ⟨F_is_better, PySem.W.mg_of X G a_d_is_better, F_is_better.binds fun _ _ _ _ _ _ us hl => match us, hl with | [_, _, _], _ => rfl⟩
  have F_best_tackle := fun_mk (st := st_best_tackle) l_best_tackle cc_best_tackle kk_best_tackle
  have D_best_tackle : Df K mg "best_tackle" st_best_tackle ["rolls", "most", "grip"] _ _ := ⟨F_best_tackle, PySem.W.mg_of X G a_d_best_tackle, F_best_tackle.binds fun _ _ _ _ _ _ us hl => match us, hl with | [_, _, _], _ => rfl⟩
  have F_fewest_rolls := fun_mk (st := st_fewest_rolls) l_fewest_rolls cc_fewest_rolls kk_fewest_rolls
  have D_fewest_rolls : Df K mg "fewest_rolls" st_fewest_rolls ["load", "grip"] _ _ := ⟨F_fewest_rolls, PySem.W.mg_of X G a_d_fewest_rolls, F_fewest_rolls.binds fun _ _ _ _ _ _ us hl => match us, hl with | [_, _], _ => rfl⟩
  have F__law_draws := fun_mk (st := st__law_draws) l__law_draws cc__law_draws kk__law_draws
  have D__law_draws : Df K mg "_law_draws" st__law_draws ["script"] _ _ := ⟨F__law_draws, PySem.W.mg_of X G a_d__law_draws, F__law_draws.binds fun _ _ _ _ _ _ us hl => match us, hl with | [_], _ => rfl⟩
  have F__law_take := fun_mk (st := st__law_take) l__law_take cc__law_take kk__law_take
  have D__law_take : Df K mg "_law_take" st__law_take ["draws", "bound"] _ _ := ⟨F__law_take, PySem.W.mg_of X G a_d__law_take, F__law_take.binds fun _ _ _ _ _ _ us hl => match us, hl with | [_, _], _ => rfl⟩
  have F__law_says := fun_mk (st := st__law_says) l__law_says cc__law_says kk__law_says
  have D__law_says : Df K mg "_law_says" st__law_says ["told", "due"] _ _ := ⟨F__law_says, PySem.W.mg_of X G a_d__law_says, F__law_says.binds fun _ _ _ _ _ _ us hl => match us, hl with | [_, _], _ => rfl⟩
  have F__law_alike := fun_mk (st := st__law_alike) l__law_alike cc__law_alike kk__law_alike
  have D__law_alike : Df K mg "_law_alike" st__law_alike ["found", "due"] _ _ := ⟨F__law_alike, PySem.W.mg_of X G a_d__law_alike, F__law_alike.binds fun _ _ _ _ _ _ us hl => match us, hl with | [_, _], _ => rfl⟩
  have F__law_word := fun_mk (st := st__law_word) l__law_word cc__law_word kk__law_word
  have D__law_word : Df K mg "_law_word" st__law_word ["error"] _ _ := ⟨F__law_word, PySem.W.mg_of X G a_d__law_word, F__law_word.binds fun _ _ _ _ _ _ us hl => match us, hl with | [_], _ => rfl⟩
  have F__law_gcd := fun_mk (st := st__law_gcd) l__law_gcd cc__law_gcd kk__law_gcd
  have D__law_gcd : Df K mg "_law_gcd" st__law_gcd ["one", "other"] _ _ := ⟨F__law_gcd, PySem.W.mg_of X G a_d__law_gcd, F__law_gcd.binds fun _ _ _ _ _ _ us hl => match us, hl with | [_, _], _ => rfl⟩
  have F__law_part := fun_mk (st := st__law_part) l__law_part cc__law_part kk__law_part
  have D__law_part : Df K mg "_law_part" st__law_part ["one", "other"] _ _ := ⟨F__law_part, PySem.W.mg_of X G a_d__law_part, F__law_part.binds fun _ _ _ _ _ _ us hl => match us, hl with | [_, _], _ => rfl⟩
  have F__law_plus := fun_mk (st := st__law_plus) l__law_plus cc__law_plus kk__law_plus
  have D__law_plus : Df K mg "_law_plus" st__law_plus ["one", "other"] _ _ := ⟨F__law_plus, PySem.W.mg_of X G a_d__law_plus, F__law_plus.binds fun _ _ _ _ _ _ us hl => match us, hl with | [_, _], _ => rfl⟩
  have F__law_minus := fun_mk (st := st__law_minus) l__law_minus cc__law_minus kk__law_minus
  have D__law_minus : Df K mg "_law_minus" st__law_minus ["one", "other"] _ _ := ⟨F__law_minus, PySem.W.mg_of X G a_d__law_minus, F__law_minus.binds fun _ _ _ _ _ _ us hl => match us, hl with | [_, _], _ => rfl⟩
  have F__law_times := fun_mk (st := st__law_times) l__law_times cc__law_times kk__law_times
  have D__law_times : Df K mg "_law_times" st__law_times ["one", "other"] _ _ := ⟨F__law_times, PySem.W.mg_of X G a_d__law_times, F__law_times.binds fun _ _ _ _ _ _ us hl => match us, hl with | [_, _], _ => rfl⟩
  have F__law_less := fun_mk (st := st__law_less) l__law_less cc__law_less kk__law_less
  have D__law_less : Df K mg "_law_less" st__law_less ["one", "other"] _ _ := ⟨F__law_less, PySem.W.mg_of X G a_d__law_less, F__law_less.binds fun _ _ _ _ _ _ us hl => match us, hl with | [_, _], _ => rfl⟩
  have F__law_sum := fun_mk (st := st__law_sum) l__law_sum cc__law_sum kk__law_sum
  have D__law_sum : Df K mg "_law_sum" st__law_sum ["rows"] _ _ := ⟨F__law_sum, PySem.W.mg_of X G a_d__law_sum, F__law_sum.binds fun _ _ _ _ _ _ us hl => match us, hl with | [_], _ => rfl⟩
  have F__law_told := fun_mk (st := st__law_told) l__law_told cc__law_told kk__law_told
  have D__law_told : Df K mg "_law_told" st__law_told ["which", "one", "other", "grip"] _ _ := ⟨F__law_told, PySem.W.mg_of X G a_d__law_told, F__law_told.binds fun _ _ _ _ _ _ us hl => match us, hl with | [_, _, _, _], _ => rfl⟩
  have F__law_lifts := fun_mk (st := st__law_lifts) l__law_lifts cc__law_lifts kk__law_lifts
  have D__law_lifts : Df K mg "_law_lifts" st__law_lifts ["tackle", "grip"] _ _ := ⟨F__law_lifts, PySem.W.mg_of X G a_d__law_lifts, F__law_lifts.binds fun _ _ _ _ _ _ us hl => match us, hl with | [_, _], _ => rfl⟩
  have F__law_tackles := fun_mk (st := st__law_tackles) l__law_tackles cc__law_tackles kk__law_tackles
  have D__law_tackles : Df K mg "_law_tackles" st__law_tackles ["rolls", "most"] _ _ := ⟨F__law_tackles, PySem.W.mg_of X G a_d__law_tackles, F__law_tackles.binds fun _ _ _ _ _ _ us hl => match us, hl with | [_, _], _ => rfl⟩
  have F_law := fun_mk (st := st_law) l_law cc_law kk_law
  have D_law : Df K mg "law" st_law ["script"] _ _ := ⟨F_law, PySem.W.mg_of X G a_d_law, F_law.binds fun _ _ _ _ _ _ us hl => match us, hl with | [_], _ => rfl⟩
  obtain ⟨c_is_tackle, Q_is_tackle, ec_is_tackle, T_is_tackle⟩ := tab_of X TB D_is_tackle (by decide +kernel) nt_
  refine ⟨PySem.W.fnOf "law" "law" (defArgs st_law) (defBody st_law) (defScope st_law) .none kV_law dc_law pm_law an_law cd_law ct_law, [(c_is_tackle, Q_is_tackle)], spLaw ⟨K, mg, fun b => ∃ p ∈ ([(c_is_tackle, Q_is_tackle)] : List (Addr × Addr)), b = p.2⟩ (LawTrue 1 21 f_law0 f_law), ?_, ?_, ?_, fun s u => .of_eq rfl, ?_, fun base hK hG hTB => ?_⟩
  · intro p hp
    simp only [List.mem_cons, List.not_mem_nil, or_false] at hp
    rcases hp with rfl
    · exact T_is_tackle.1
  · intro p hp
    simp only [List.mem_cons, List.not_mem_nil, or_false] at hp
    rcases hp with rfl
    · exact T_is_tackle.2.2
  · intro p hp
    simp only [List.mem_cons, List.not_mem_nil, or_false] at hp
    rcases hp with rfl
    · exact T_is_tackle.2.1
  · intro H a ns hl hb ht hS
    exact ⟨a, ns, rfl, hS, fun b ⟨p, hp, e⟩ => ⟨#[], by rw [e]; exact ht p hp, trivial⟩, K89.math_ok ns hl hb, fun _ => rfl⟩
  · refine k_law (base := base) (a_Malformed := a_Malformed) (a_NotThere := a_NotThere) (a_OutOfRange := a_OutOfRange) (a_Refused := a_Refused) (a_TooMuch := a_TooMuch) (a_CampError := a_CampError) ?_ D_law
    exact {
      b_abs := PySem.W.mg_none_of X G nb_abs
      b_all := PySem.W.mg_none_of X G nb_all
      b_bool := PySem.W.mg_none_of X G nb_bool
      b_int := PySem.W.mg_none_of X G nb_int
      b_isinstance := PySem.W.mg_none_of X G nb_isinstance
      b_len := PySem.W.mg_none_of X G nb_len
      b_list := PySem.W.mg_none_of X G nb_list
      b_min := PySem.W.mg_none_of X G nb_min
      b_range := PySem.W.mg_none_of X G nb_range
      b_reversed := PySem.W.mg_none_of X G nb_reversed
      b_str := PySem.W.mg_none_of X G nb_str
      b_sum := PySem.W.mg_none_of X G nb_sum
      b_tuple := PySem.W.mg_none_of X G nb_tuple
      g_gcd := PySem.W.mg_of X G nf_gcd
      c_MOST_FEWEST := ⟨_, PySem.W.mg_of X G nc_MOST_FEWEST⟩
      c_MOST_PARTS := ⟨_, PySem.W.mg_of X G nc_MOST_PARTS⟩
      c_MOST_ROLLS := ⟨_, PySem.W.mg_of X G nc_MOST_ROLLS⟩
      c_MOST_TOGETHER := ⟨_, PySem.W.mg_of X G nc_MOST_TOGETHER⟩
      x_OutOfRange := ⟨PySem.W.mg_of X G ne_OutOfRange, PySem.F.excBase_ValueError, q_OutOfRange, kp_OutOfRange, sb_OutOfRange, ty_OutOfRange⟩
      xc_OutOfRange := ⟨hg_OutOfRange, hk_OutOfRange, sb_OutOfRange, hd_OutOfRange, ha_OutOfRange, hn_, ht_, hm_OutOfRange⟩
      xk_OutOfRange := if_pos (beq_self_eq_true _)
      xm_OutOfRange_CampError := PySem.W.exm_ref sb_CampError hd_CampError ty_CampError sx_OutOfRange_CampError
      x_Refused := ⟨PySem.W.mg_of X G ne_Refused, PySem.F.excBase_ValueError, q_Refused, kp_Refused, sb_Refused, ty_Refused⟩
      xc_Refused := ⟨hg_Refused, hk_Refused, sb_Refused, hd_Refused, ha_Refused, hn_, ht_, hm_Refused⟩
      xk_Refused := if_pos (beq_self_eq_true _)
      xm_Refused_CampError := PySem.W.exm_ref sb_CampError hd_CampError ty_CampError sx_Refused_CampError
      x_TooMuch := ⟨PySem.W.mg_of X G ne_TooMuch, PySem.F.excBase_ValueError, q_TooMuch, kp_TooMuch, sb_TooMuch, ty_TooMuch⟩
      xc_TooMuch := ⟨hg_TooMuch, hk_TooMuch, sb_TooMuch, hd_TooMuch, ha_TooMuch, hn_, ht_, hm_TooMuch⟩
      xk_TooMuch := if_pos (beq_self_eq_true _)
      xm_TooMuch_CampError := PySem.W.exm_ref sb_CampError hd_CampError ty_CampError sx_TooMuch_CampError
      xg_CampError := PySem.W.mg_of X G ne_CampError
      xg_Malformed := PySem.W.mg_of X G ne_Malformed
      xg_NotThere := PySem.W.mg_of X G ne_NotThere
      xg_OutOfRange := PySem.W.mg_of X G ne_OutOfRange
      xg_Refused := PySem.W.mg_of X G ne_Refused
      xg_TooMuch := PySem.W.mg_of X G ne_TooMuch
      xk_OutOfRange_Malformed := ki_OutOfRange_Malformed
      xk_OutOfRange_NotThere := ki_OutOfRange_NotThere
      xk_OutOfRange_OutOfRange := if_pos (beq_self_eq_true _)
      xk_OutOfRange_Refused := ki_OutOfRange_Refused
      xk_OutOfRange_TooMuch := ki_OutOfRange_TooMuch
      xk_Refused_Malformed := ki_Refused_Malformed
      xk_Refused_NotThere := ki_Refused_NotThere
      xk_Refused_OutOfRange := ki_Refused_OutOfRange
      xk_Refused_Refused := if_pos (beq_self_eq_true _)
      xk_Refused_TooMuch := ki_Refused_TooMuch
      xk_TooMuch_Malformed := ki_TooMuch_Malformed
      xk_TooMuch_NotThere := ki_TooMuch_NotThere
      xk_TooMuch_OutOfRange := ki_TooMuch_OutOfRange
      xk_TooMuch_Refused := ki_TooMuch_Refused
      xk_TooMuch_TooMuch := if_pos (beq_self_eq_true _)
      d_is_number := ⟨_, _, D_is_number⟩
      d_lowest := ⟨_, _, D_lowest⟩
      d_plus := ⟨_, _, D_plus⟩
      d_times := ⟨_, _, D_times⟩
      d_less := ⟨_, _, D_less⟩
      d_is_tackle := ⟨_, _, _, _, D_is_tackle, ec_is_tackle, tabB_of (hTB (c_is_tackle, Q_is_tackle) (by simp)), ⟨(c_is_tackle, Q_is_tackle), by simp, rfl⟩⟩
      d_part_lifts := ⟨_, _, D_part_lifts⟩
      d_lifts := ⟨_, _, D_lifts⟩
      d_tackles_of := ⟨_, _, D_tackles_of⟩
      d_is_better := ⟨_, _, D_is_better⟩
      d_best_tackle := ⟨_, _, D_best_tackle⟩
      d_fewest_rolls := ⟨_, _, D_fewest_rolls⟩
      d__law_draws := ⟨_, _, D__law_draws⟩
      d__law_take := ⟨_, _, D__law_take⟩
      d__law_says := ⟨_, _, D__law_says⟩
      d__law_alike := ⟨_, _, D__law_alike⟩
      d__law_word := ⟨_, _, D__law_word⟩
      d__law_gcd := ⟨_, _, D__law_gcd⟩
      d__law_part := ⟨_, _, D__law_part⟩
      d__law_plus := ⟨_, _, D__law_plus⟩
      d__law_minus := ⟨_, _, D__law_minus⟩
      d__law_times := ⟨_, _, D__law_times⟩
      d__law_less := ⟨_, _, D__law_less⟩
      d__law_sum := ⟨_, _, D__law_sum⟩
      d__law_told := ⟨_, _, D__law_told⟩
      d__law_lifts := ⟨_, _, D__law_lifts⟩
      d__law_tackles := ⟨_, _, D__law_tackles⟩
    }
end K89
open PySem PySem.W PyProof.Rows
set_option maxRecDepth 100000 in
set_option maxHeartbeats 0 in
theorem PySem.Challenge.cw_campslaid_k89_whole_tackles_that_lift_holds : PySem.Challenge.rw_campslaid_k89_whole_tackles_that_lift.Holds := by
  w_on; o_law; k_head; (case hw => w_witness2)
  k_fill
  refine DL.walk_all (l := PySem.Challenge.rw_campslaid_k89_whole_tackles_that_lift) (n := 63) (k := 8) (x := "script") rfl (by decide) rfl ⟨rfl, by decide, by decide⟩ (fun w h Y => PySem.W.kIn_of Y) ?F
  case F =>
    intro w mg fa h Y KX G hmg TB
    refine' K89.all_mk KX G hmg TB ?nb_abs ?nb_all ?nb_bool ?nb_int ?nb_isinstance ?nb_len ?nb_list ?nb_min ?nb_range ?nb_reversed ?nb_str ?nb_sum ?nb_tuple ?nf_gcd ?nc_MOST_FEWEST ?nc_MOST_PARTS ?nc_MOST_ROLLS ?nc_MOST_TOGETHER ?ne_Malformed ?ne_NotThere ?ne_OutOfRange ?sb_OutOfRange ?ty_OutOfRange ?hd_OutOfRange ?ne_Refused ?sb_Refused ?ty_Refused ?hd_Refused ?ne_TooMuch ?sb_TooMuch ?ty_TooMuch ?hd_TooMuch ?ne_CampError ?sb_CampError ?ty_CampError ?hd_CampError ?q_OutOfRange ?kp_OutOfRange ?hg_OutOfRange ?hk_OutOfRange ?ha_OutOfRange ?hm_OutOfRange ?sx_OutOfRange_CampError ?q_Refused ?kp_Refused ?hg_Refused ?hk_Refused ?ha_Refused ?hm_Refused ?sx_Refused_CampError ?q_TooMuch ?kp_TooMuch ?hg_TooMuch ?hk_TooMuch ?ha_TooMuch ?hm_TooMuch ?sx_TooMuch_CampError ?ki_OutOfRange_Malformed ?ki_OutOfRange_NotThere ?ki_OutOfRange_Refused ?ki_OutOfRange_TooMuch ?ki_Refused_Malformed ?ki_Refused_NotThere ?ki_Refused_OutOfRange ?ki_Refused_TooMuch ?ki_TooMuch_Malformed ?ki_TooMuch_NotThere ?ki_TooMuch_OutOfRange ?ki_TooMuch_Refused ?hn_ ?ht_ ?a_d_is_number ?l_is_number ?cc_is_number ?kk_is_number ?a_d_lowest ?l_lowest ?cc_lowest ?kk_lowest ?a_d_plus ?l_plus ?cc_plus ?kk_plus ?a_d_times ?l_times ?cc_times ?kk_times ?a_d_less ?l_less ?cc_less ?kk_less ?a_d_is_tackle ?l_is_tackle ?cc_is_tackle ?kk_is_tackle ?a_d_part_lifts ?l_part_lifts ?cc_part_lifts ?kk_part_lifts ?a_d_lifts ?l_lifts ?cc_lifts ?kk_lifts ?a_d_tackles_of ?l_tackles_of ?cc_tackles_of ?kk_tackles_of ?a_d_is_better ?l_is_better ?cc_is_better ?kk_is_better ?a_d_best_tackle ?l_best_tackle ?cc_best_tackle ?kk_best_tackle ?a_d_fewest_rolls ?l_fewest_rolls ?cc_fewest_rolls ?kk_fewest_rolls ?a_d__law_draws ?l__law_draws ?cc__law_draws ?kk__law_draws ?a_d__law_take ?l__law_take ?cc__law_take ?kk__law_take ?a_d__law_says ?l__law_says ?cc__law_says ?kk__law_says ?a_d__law_alike ?l__law_alike ?cc__law_alike ?kk__law_alike ?a_d__law_word ?l__law_word ?cc__law_word ?kk__law_word ?a_d__law_gcd ?l__law_gcd ?cc__law_gcd ?kk__law_gcd ?a_d__law_part ?l__law_part ?cc__law_part ?kk__law_part ?a_d__law_plus ?l__law_plus ?cc__law_plus ?kk__law_plus ?a_d__law_minus ?l__law_minus ?cc__law_minus ?kk__law_minus ?a_d__law_times ?l__law_times ?cc__law_times ?kk__law_times ?a_d__law_less ?l__law_less ?cc__law_less ?kk__law_less ?a_d__law_sum ?l__law_sum ?cc__law_sum ?kk__law_sum ?a_d__law_told ?l__law_told ?cc__law_told ?kk__law_told ?a_d__law_lifts ?l__law_lifts ?cc__law_lifts ?kk__law_lifts ?a_d__law_tackles ?l__law_tackles ?cc__law_tackles ?kk__law_tackles ?a_d_law ?l_law ?cc_law ?kk_law ?nt_
    (case nb_abs => k_is)
    (case nb_all => k_is)
    (case nb_bool => k_is)
    (case nb_int => k_is)
    (case nb_isinstance => k_is)
    (case nb_len => k_is)
    (case nb_list => k_is)
    (case nb_min => k_is)
    (case nb_range => k_is)
    (case nb_reversed => k_is)
    (case nb_str => k_is)
    (case nb_sum => k_is)
    (case nb_tuple => k_is)
    (case nf_gcd => k_is)
    (case nc_MOST_FEWEST => k_is)
    (case nc_MOST_PARTS => k_is)
    (case nc_MOST_ROLLS => k_is)
    (case nc_MOST_TOGETHER => k_is)
    (case ne_Malformed => k_is)
    (case ne_NotThere => k_is)
    (case ne_OutOfRange => k_is)
    (case sb_OutOfRange => k_is)
    (case ty_OutOfRange => k_is)
    (case hd_OutOfRange => k_is)
    (case ne_Refused => k_is)
    (case sb_Refused => k_is)
    (case ty_Refused => k_is)
    (case hd_Refused => k_is)
    (case ne_TooMuch => k_is)
    (case sb_TooMuch => k_is)
    (case ty_TooMuch => k_is)
    (case hd_TooMuch => k_is)
    (case ne_CampError => k_is)
    (case sb_CampError => k_is)
    (case ty_CampError => k_is)
    (case hd_CampError => k_is)
    (case q_OutOfRange => k_exc)
    (case kp_OutOfRange => k_is)
    (case hg_OutOfRange => k_is)
    (case hk_OutOfRange => k_is)
    (case ha_OutOfRange => k_is)
    (case hm_OutOfRange => k_is)
    (case sx_OutOfRange_CampError => first | rfl | k_is)
    (case q_Refused => k_exc)
    (case kp_Refused => k_is)
    (case hg_Refused => k_is)
    (case hk_Refused => k_is)
    (case ha_Refused => k_is)
    (case hm_Refused => k_is)
    (case sx_Refused_CampError => first | rfl | k_is)
    (case q_TooMuch => k_exc)
    (case kp_TooMuch => k_is)
    (case hg_TooMuch => k_is)
    (case hk_TooMuch => k_is)
    (case ha_TooMuch => k_is)
    (case hm_TooMuch => k_is)
    (case sx_TooMuch_CampError => first | rfl | k_is)
    (case ki_OutOfRange_Malformed => kit_is)
    (case ki_OutOfRange_NotThere => kit_is)
    (case ki_OutOfRange_Refused => kit_is)
    (case ki_OutOfRange_TooMuch => kit_is)
    (case ki_Refused_Malformed => kit_is)
    (case ki_Refused_NotThere => kit_is)
    (case ki_Refused_OutOfRange => kit_is)
    (case ki_Refused_TooMuch => kit_is)
    (case ki_TooMuch_Malformed => kit_is)
    (case ki_TooMuch_NotThere => kit_is)
    (case ki_TooMuch_OutOfRange => kit_is)
    (case ki_TooMuch_Refused => kit_is)
    (case hn_ => k_is)
    (case ht_ => k_is)
    (case a_d_is_number => k_is)
    (case l_is_number => k_is)
    (case cc_is_number => k_is)
    (case kk_is_number => k_is)
    (case a_d_lowest => k_is)
    (case l_lowest => k_is)
    (case cc_lowest => k_is)
    (case kk_lowest => k_is)
    (case a_d_plus => k_is)
    (case l_plus => k_is)
    (case cc_plus => k_is)
    (case kk_plus => k_is)
    (case a_d_times => k_is)
    (case l_times => k_is)
    (case cc_times => k_is)
    (case kk_times => k_is)
    (case a_d_less => k_is)
    (case l_less => k_is)
    (case cc_less => k_is)
    (case kk_less => k_is)
    (case a_d_is_tackle => k_is)
    (case l_is_tackle => k_is)
    (case cc_is_tackle => k_is)
    (case kk_is_tackle => k_is)
    (case a_d_part_lifts => k_is)
    (case l_part_lifts => k_is)
    (case cc_part_lifts => k_is)
    (case kk_part_lifts => k_is)
    (case a_d_lifts => k_is)
    (case l_lifts => k_is)
    (case cc_lifts => k_is)
    (case kk_lifts => k_is)
    (case a_d_tackles_of => k_is)
    (case l_tackles_of => k_is)
    (case cc_tackles_of => k_is)
    (case kk_tackles_of => k_is)
    (case a_d_is_better => k_is)
    (case l_is_better => k_is)
    (case cc_is_better => k_is)
    (case kk_is_better => k_is)
    (case a_d_best_tackle => k_is)
    (case l_best_tackle => k_is)
    (case cc_best_tackle => k_is)
    (case kk_best_tackle => k_is)
    (case a_d_fewest_rolls => k_is)
    (case l_fewest_rolls => k_is)
    (case cc_fewest_rolls => k_is)
    (case kk_fewest_rolls => k_is)
    (case a_d__law_draws => k_is)
    (case l__law_draws => k_is)
    (case cc__law_draws => k_is)
    (case kk__law_draws => k_is)
    (case a_d__law_take => k_is)
    (case l__law_take => k_is)
    (case cc__law_take => k_is)
    (case kk__law_take => k_is)
    (case a_d__law_says => k_is)
    (case l__law_says => k_is)
    (case cc__law_says => k_is)
    (case kk__law_says => k_is)
    (case a_d__law_alike => k_is)
    (case l__law_alike => k_is)
    (case cc__law_alike => k_is)
    (case kk__law_alike => k_is)
    (case a_d__law_word => k_is)
    (case l__law_word => k_is)
    (case cc__law_word => k_is)
    (case kk__law_word => k_is)
    (case a_d__law_gcd => k_is)
    (case l__law_gcd => k_is)
    (case cc__law_gcd => k_is)
    (case kk__law_gcd => k_is)
    (case a_d__law_part => k_is)
    (case l__law_part => k_is)
    (case cc__law_part => k_is)
    (case kk__law_part => k_is)
    (case a_d__law_plus => k_is)
    (case l__law_plus => k_is)
    (case cc__law_plus => k_is)
    (case kk__law_plus => k_is)
    (case a_d__law_minus => k_is)
    (case l__law_minus => k_is)
    (case cc__law_minus => k_is)
    (case kk__law_minus => k_is)
    (case a_d__law_times => k_is)
    (case l__law_times => k_is)
    (case cc__law_times => k_is)
    (case kk__law_times => k_is)
    (case a_d__law_less => k_is)
    (case l__law_less => k_is)
    (case cc__law_less => k_is)
    (case kk__law_less => k_is)
    (case a_d__law_sum => k_is)
    (case l__law_sum => k_is)
    (case cc__law_sum => k_is)
    (case kk__law_sum => k_is)
    (case a_d__law_told => k_is)
    (case l__law_told => k_is)
    (case cc__law_told => k_is)
    (case kk__law_told => k_is)
    (case a_d__law_lifts => k_is)
    (case l__law_lifts => k_is)
    (case cc__law_lifts => k_is)
    (case kk__law_lifts => k_is)
    (case a_d__law_tackles => k_is)
    (case l__law_tackles => k_is)
    (case cc__law_tackles => k_is)
    (case kk__law_tackles => k_is)
    (case a_d_law => k_is)
    (case l_law => k_is)
    (case cc_law => k_is)
    (case kk_law => k_is)
    (case nt_ => kernel_rfl)

