import PyProof.Rows.All
import Wide.All
import OpenK.AllK
import Wide.FinOn
import HandS.Base
import HandS.Call
import HandS.List
import HandS.Comp
import HandS.Ends
import HandS.Dict
import HandS.Iter
import HandS.Text
import HandS.Exc
import HandS.Words
import HandS.WordsExc
import HandS.Lambda
import KE.KeyNested
import KE.KDictKeyed
import HandS.TupAny
import HandS.IsInst
import HandS.Wide
import HandS.More
import HandS.Zip
import HandS.Rev
import HandS.RevRange
import HandS.Codes
import HandS.ExcOwn
import HandS.RevTup
import HandS.Small
import HandS.DictComp
import HandS.Deep
import HandS.TryOnly
import HandS.Walk
import HandS.SetFor
import HandS.Style
import HandS.ExcIs
import HandS.SortKw
import HandS.Defaults
import HandS.SortInts
import HandS.ExcCtx
import HandS.HotCalls
import PySem.Challenge.RW_ruleswood_k02_places_of_a_term
set_option Elab.async false
set_option linter.all false
set_option maxRecDepth 100000
set_option autoImplicit false
/-! The A layer: values as trees (AV), an abstract heap of mutable objects alone (Gp), readings over both. -/
namespace Rw
open PySem L2

inductive AV where
  | non | bl (b : Bool) | int (i : Int) | str (x : Str) | ref (a : Addr) | ty (n : String) | tup (xs : List AV) | ro (ns : List Int)

/-- the script: locked, or an object of the module -/
def RoL (K : PySem.W.Frag) (H : Hp) (a : Addr) (ns : List Int) : Prop :=
  (∃ o, H a = some (.frz o (.lst (ns.map V.int)))) ∨
    ∃ (o : Obj) (its : Array Value) (n : Nat), K.lookup a = some o ∧ o.cls = .type "list" ∧ o.dict = none ∧ o.data = .seq its n ∧ its.size ≤ sizeLine ∧ Vals (ns.map V.int) its.toList

mutual
inductive Rep (K : PySem.W.Frag) (H : Hp) : AV → V → Prop
  | non : Rep K H .non .non
  | bl (b : Bool) : Rep K H (.bl b) (.bl b)
  | int (i : Int) : Rep K H (.int i) (.int i)
  | str (x : Str) : Rep K H (.str x) (.str x)
  | ref (a : Addr) : Rep K H (.ref a) (.ref a)
  | ty (n : String) : Rep K H (.ty n) (.ty n)
  | tup {a : Addr} {vs : List V} {xs : List AV} : H a = some (.tup vs) → RepL K H xs vs → Rep K H (.tup xs) (.ref a)
  | ro {a : Addr} {ns : List Int} : RoL K H a ns → Rep K H (.ro ns) (.ref a)
inductive RepL (K : PySem.W.Frag) (H : Hp) : List AV → List V → Prop
  | nil : RepL K H [] []
  | cons {x : AV} {v : V} {xs : List AV} {vs : List V} : Rep K H x v → RepL K H xs vs → RepL K H (x :: xs) (v :: vs)
end

/-- what is kept of tuples and locked things -/
structure Kept (H H' : Hp) : Prop where
  tups : ∀ b xs, H b = some (.tup xs) → H' b = some (.tup xs)
  frzs : ∀ b o u, H b = some (.frz o (.lst u)) → H' b = some (.frz o (.lst u))
  codes : ∀ b q, H b = some (LamX.CodeO b q) → H' b = some (LamX.CodeO b q)
theorem Kept.refl {H : Hp} : Kept H H := ⟨fun _ _ h => h, fun _ _ _ h => h, fun _ _ h => h⟩
theorem Kept.trans {H H1 H2 : Hp} (a : Kept H H1) (b : Kept H1 H2) : Kept H H2 := ⟨fun c x h => b.tups c x (a.tups c x h), fun c o x h => b.frzs c o x (a.frzs c o x h), fun c q h => b.codes c q (a.codes c q h)⟩

theorem RoL.mono {K : PySem.W.Frag} {H H' : Hp} {a : Addr} {ns : List Int} (k : Kept H H') (h : RoL K H a ns) : RoL K H' a ns := by
  rcases h with ⟨o, h⟩ | h
  · exact .inl ⟨o, k.frzs _ _ _ h⟩
  · exact .inr h
theorem RoL.sq {K : PySem.W.Frag} {H : Hp} {a : Addr} {ns : List Int} (h : RoL K H a ns) : SqL K H a (ns.map V.int) := by
  rcases h with ⟨o, h⟩ | h
  · exact .inl (.inr ⟨o, h⟩)
  · exact .inr h

mutual
theorem Rep.mono {K : PySem.W.Frag} {H H' : Hp} (k : Kept H H') : ∀ (x : AV) (v : V), Rep K H x v → Rep K H' x v
  | .non, _, h => by cases h; exact .non
  | .bl b, _, h => by cases h; exact .bl b
  | .int i, _, h => by cases h; exact .int i
  | .str x, _, h => by cases h; exact .str x
  | .ref a, _, h => by cases h; exact .ref a
  | .ty n, _, h => by cases h; exact .ty n
  | .ro ns, _, h => by
    cases h with
    | ro h => exact .ro (h.mono k)
  | .tup xs, _, h => by
    cases h with
    | tup h1 h2 => exact .tup (k.tups _ _ h1) (RepL.mono k xs _ h2)
theorem RepL.mono {K : PySem.W.Frag} {H H' : Hp} (k : Kept H H') : ∀ (xs : List AV) (vs : List V), RepL K H xs vs → RepL K H' xs vs
  | [], _, h => by cases h; exact .nil
  | x :: xs, _, h => by
    cases h with
    | cons h1 h2 => exact .cons (Rep.mono k x _ h1) (RepL.mono k xs _ h2)
end
theorem Rep.up {K : PySem.W.Frag} {H H' : Hp} {x : AV} {v : V} (h : Rep K H x v) (k : Kept H H') : Rep K H' x v := Rep.mono k x v h
theorem RepL.up {K : PySem.W.Frag} {H H' : Hp} {x : List AV} {v : List V} (h : RepL K H x v) (k : Kept H H') : RepL K H' x v := RepL.mono k x v h

section
variable {K : PySem.W.Frag} {H : Hp}
theorem RepL.length : ∀ {xs : List AV} {vs : List V}, RepL K H xs vs → vs.length = xs.length
  | _, _, .nil => rfl
  | _, _, .cons _ t => by rw [List.length_cons, List.length_cons, RepL.length t]
theorem RepL.get : ∀ {xs : List AV} {vs : List V} {i : Nat} {x : AV}, RepL K H xs vs → xs[i]? = some x → ∃ v, vs[i]? = some v ∧ Rep K H x v
  | _, _, _, _, .nil, e => by simp at e
  | _, _, 0, _, .cons r _, e => by simp at e; subst e; exact ⟨_, rfl, r⟩
  | _, _, i + 1, x, .cons _ t, e => by
    obtain ⟨u, h1, h2⟩ := RepL.get (i := i) (x := x) t (by simpa using e)
    exact ⟨u, by simpa using h1, h2⟩
theorem RepL.append : ∀ {xs ys : List AV} {vs ws : List V}, RepL K H xs vs → RepL K H ys ws → RepL K H (xs ++ ys) (vs ++ ws)
  | _, _, _, _, .nil, s => s
  | _, _, _, _, .cons r t, s => .cons r (RepL.append t s)
theorem RepL.take : ∀ {xs : List AV} {vs : List V} (n : Nat), RepL K H xs vs → RepL K H (xs.take n) (vs.take n)
  | _, _, 0, _ => by rw [List.take_zero, List.take_zero]; exact .nil
  | _, _, _ + 1, .nil => .nil
  | _, _, n + 1, .cons r t => .cons r (RepL.take n t)
theorem RepL.drop : ∀ {xs : List AV} {vs : List V} (n : Nat), RepL K H xs vs → RepL K H (xs.drop n) (vs.drop n)
  | _, _, 0, r => r
  | _, _, _ + 1, .nil => .nil
  | _, _, n + 1, .cons _ t => RepL.drop n t
theorem RepL.set {x : AV} {v : V} (r : Rep K H x v) : ∀ {xs : List AV} {vs : List V} (i : Nat), RepL K H xs vs → RepL K H (xs.set i x) (vs.set i v)
  | _, _, _, .nil => .nil
  | _, _, 0, .cons _ t => .cons r t
  | _, _, i + 1, .cons q t => .cons q (RepL.set r i t)
theorem RepL.reverse {xs : List AV} {vs : List V} (h : RepL K H xs vs) : RepL K H xs.reverse vs.reverse := by
  induction xs generalizing vs with
  | nil => cases h; exact .nil
  | cons x xs ih =>
    cases h with
    | cons r t =>
      rw [List.reverse_cons, List.reverse_cons]
      exact RepL.append (ih t) (.cons r .nil)
theorem RepL.eraseIdx : ∀ {xs : List AV} {vs : List V} (i : Nat), RepL K H xs vs → RepL K H (xs.eraseIdx i) (vs.eraseIdx i)
  | _, _, _, .nil => .nil
  | _, _, 0, .cons _ t => t
  | _, _, i + 1, .cons q t => .cons q (RepL.eraseIdx i t)
theorem RepL.one {x : AV} {vs : List V} (h : RepL K H [x] vs) : ∃ v, vs = [v] ∧ Rep K H x v := by
  cases h with
  | cons r t => cases t; exact ⟨_, rfl, r⟩
theorem RepL.two {x y : AV} {vs : List V} (h : RepL K H [x, y] vs) : ∃ v w, vs = [v, w] ∧ Rep K H x v ∧ Rep K H y w := by
  cases h with
  | cons r t =>
    obtain ⟨w, rfl, r2⟩ := RepL.one t
    exact ⟨_, _, rfl, r, r2⟩
end

/-- a mutable thing -/
inductive GO where
  | lst (xs : List AV)
  | dK (kvs : List (Key × AV))
  | dT (kvs : List (List Key × AV))
  | ins (C : Addr) (fs : List (Str × AV))
  /-- a dict that is locked while a for walks it -/
  | fz (od : Obj) (ws : List (Key × V)) (kvs : List (Key × AV))
  /-- a table of code objects of one name -/
  | tab (q : Str)
  /-- a dict whose keys are tuples, nested -/
  | dN (P : Program) (w : World) (kvs : List (NestedKey × AV))
abbrev Gp := Addr → Option GO
def gset (G : Gp) (a : Addr) (o : GO) : Gp := fun b => if b = a then some o else G b
theorem gset_same {G : Gp} {a : Addr} {o : GO} : gset G a o a = some o := by unfold gset; rw [if_pos rfl]
theorem gset_ne {G : Gp} {a b : Addr} {o : GO} (h : b ≠ a) : gset G a o b = G b := by unfold gset; rw [if_neg h]

/-- a new thing o at p -/
structure New (G : Gp) (p : Addr) (o : GO) (G' : Gp) : Prop where
  eq : G' = gset G p o
  free : G p = none
theorem New.at_ {G G' : Gp} {p : Addr} {o : GO} (h : New G p o G') : G' p = some o := by rw [h.eq, gset_same]
theorem New.keep {G G' : Gp} {p b : Addr} {o u : GO} (h : New G p o G') (e : G b = some u) : G' b = some u := by
  rw [h.eq, gset_ne (fun z => by rw [z, h.free] at e; cases e)]; exact e
theorem New.none {G G' : Gp} {p b : Addr} {o : GO} (h : New G p o G') (n : G' b = none) : G b = none := by
  cases e : G b with
  | none => rfl
  | some u => rw [h.keep e] at n; cases n
theorem New.ne {G G' : Gp} {p b : Addr} {o u : GO} (h : New G p o G') (e : G b = some u) : b ≠ p := fun z => by rw [z, h.free] at e; cases e

def RKV (K : PySem.W.Frag) (H : Hp) {κ : Type} : List (κ × AV) → List (κ × V) → Prop := Paired fun p q => p.1 = q.1 ∧ Rep K H p.2 q.2
theorem RKV.up {K : PySem.W.Frag} {H H' : Hp} {κ : Type} {xs : List (κ × AV)} {vs : List (κ × V)} (h : RKV K H xs vs) (k : Kept H H') : RKV K H' xs vs :=
  Paired.mapP h fun _ _ z => ⟨z.1, z.2.up k⟩

mutual
/-- a key as a value -/
def nkA : NestedKey → AV
  | .none => .non
  | .num i => .int i
  | .text x => .str x
  | .tup ks => .tup (nkAs ks)
def nkAs : List NestedKey → List AV
  | [] => []
  | k :: ks => nkA k :: nkAs ks
end
/-- the table of a dict with such keys, by its entries -/
def NesE (P : Program) (w : World) (a : Addr) (xs : List (NestedKey × Addr × Value)) (h : Heap) : Prop :=
  ∃ o es ep, h.get? a = some o ∧ o.ExactDict ∧ o.data = .dict es ep ∧ es.toList = xs.map (entryOfKey (nestedKind P w)) ∧ (xs.map (·.1)).Nodup
/-- its keys and values in the heap -/
def NesR (K : PySem.W.Frag) (H : Hp) : List (NestedKey × AV) → List (NestedKey × Addr × Value) → Prop :=
  Paired fun p q => p.1 = q.1 ∧ p.1.depth ≤ 8 ∧ Rep K H (nkA p.1) (.ref q.2.1) ∧ ∃ v, RelV v q.2.2 ∧ Rep K H p.2 v
theorem NesR.up {K : PySem.W.Frag} {H H' : Hp} {xs : List (NestedKey × AV)} {vs : List (NestedKey × Addr × Value)} (h : NesR K H xs vs) (k : Kept H H') : NesR K H' xs vs :=
  Paired.mapP h fun _ _ z => ⟨z.1, z.2.1, z.2.2.1.up k, let ⟨v, h1, h2⟩ := z.2.2.2; ⟨v, h1, h2.up k⟩⟩

def RepO (K : PySem.W.Frag) (H : Hp) (a : Addr) : GO → Prop
  | .lst xs => ∃ vs, H a = some (.lst vs) ∧ RepL K H xs vs
  | .dK kvs => ∃ ws, H a = some (.dK ws) ∧ RKV K H kvs ws
  | .dT kvs => ∃ ws, H a = some (.dT ws) ∧ RKV K H kvs ws
  | .ins C fs => ∃ dx ws, H a = some (.ins C dx ws) ∧ RKV K H fs ws
  | .fz od ws kvs => H a = some (.frz od (.dK ws)) ∧ RKV K H kvs ws
  | .tab q => LamX.TabS H a q
  | .dN P w kvs => ∃ xs, H a = some (.ext (NesE P w a xs)) ∧ (a == sysModules) = false ∧ kvs.length ≤ sizeLine ∧ NesR K H kvs xs
def SimG (K : PySem.W.Frag) (G : Gp) (H : Hp) : Prop := ∀ a o, G a = some o → RepO K H a o

structure Ext (G : Gp) (H : Hp) (G' : Gp) (H' : Hp) : Prop extends Kept H H' where
  fr : ∀ b o, H b = some o → G b = none → H' b = some o ∧ G' b = none
theorem Ext.refl {G : Gp} {H : Hp} : Ext G H G H := ⟨.refl, fun _ _ h n => ⟨h, n⟩⟩
theorem Ext.trans {G G1 G2 : Gp} {H H1 H2 : Hp} (a : Ext G H G1 H1) (b : Ext G1 H1 G2 H2) : Ext G H G2 H2 :=
  ⟨a.toKept.trans b.toKept, fun c o h n => b.fr c o (a.fr c o h n).1 (a.fr c o h n).2⟩

theorem SimG.none {K : PySem.W.Frag} {G : Gp} {H : Hp} (h : SimG K G H) {p : Addr} (hp : H p = none) : G p = none := by
  cases e : G p with
  | none => rfl
  | some o =>
    have r := h p o e
    cases o with
    | lst xs => obtain ⟨_, r, _⟩ := r; rw [hp] at r; cases r
    | dK xs => obtain ⟨_, r, _⟩ := r; rw [hp] at r; cases r
    | dT xs => obtain ⟨_, r, _⟩ := r; rw [hp] at r; cases r
    | ins C xs => obtain ⟨_, _, r, _⟩ := r; rw [hp] at r; cases r
    | fz od ws xs => obtain ⟨r, _⟩ := r; rw [hp] at r; cases r
    | tab q => obtain ⟨_, r, _⟩ := r; rw [hp] at r; cases r
    | dN P w xs => obtain ⟨_, r, _⟩ := r; rw [hp] at r; cases r
theorem RepO.up {K : PySem.W.Frag} {H H' : Hp} {a : Addr} {o : GO} (h : RepO K H a o) (k : Kept H H') (e : H' a = H a) : RepO K H' a o := by
  cases o with
  | lst xs => obtain ⟨vs, r, s⟩ := h; exact ⟨vs, e.trans r, s.up k⟩
  | dK xs => obtain ⟨vs, r, s⟩ := h; exact ⟨vs, e.trans r, s.up k⟩
  | dT xs => obtain ⟨vs, r, s⟩ := h; exact ⟨vs, e.trans r, s.up k⟩
  | ins C xs => obtain ⟨d, vs, r, s⟩ := h; exact ⟨d, vs, e.trans r, s.up k⟩
  | fz od ws xs => obtain ⟨r, s⟩ := h; exact ⟨e.trans r, s.up k⟩
  | tab q =>
    obtain ⟨ps, h1, h2, h3⟩ := h
    refine ⟨ps, e.trans h1, h2, fun pos cv hc => ?_⟩
    obtain ⟨c, e1, e2⟩ := h3 pos cv hc
    exact ⟨c, e1, k.codes _ _ e2⟩
  | dN P w xs => obtain ⟨ys, h1, h2, h3, h4⟩ := h; exact ⟨ys, e.trans h1, h2, h3, h4.up k⟩
theorem nes_ne_code {P : Program} {w : World} {a : Addr} {xs : List (NestedKey × Addr × Value)} (q : Str) : LamX.CodeO a q ≠ .ext (NesE P w a xs) := fun z => by
  unfold LamX.CodeO at z
  injection z with z
  have e : (Heap.push ⟨Array.replicate a default, {}⟩ { cls := .none, data := .fields #[.none, .str q 0] }).get? a = some { cls := .none, data := .fields #[.none, .str q 0] } := by
    have h := Heap.get?_push_size (⟨Array.replicate a default, {}⟩ : Heap) (o := { cls := .none, data := .fields #[.none, .str q 0] }) rfl
    rwa [show (⟨Array.replicate a default, {}⟩ : Heap).objs.size = a from Array.size_replicate] at h
  have h1 := congrFun z (Heap.push ⟨Array.replicate a default, {}⟩ { cls := .none, data := .fields #[.none, .str q 0] })
  have h2 : NesE P w a xs (Heap.push ⟨Array.replicate a default, {}⟩ { cls := .none, data := .fields #[.none, .str q 0] }) := by
    rw [← h1]
    exact ⟨_, _, _, e, rfl, rfl⟩
  obtain ⟨o, es, ep, h3, _, h4, _⟩ := h2
  rw [e] at h3
  cases h3
  cases h4
theorem code_ne {c : Addr} {q : Str} {o : HO} (h : ∀ g, o ≠ .ext g) : LamX.CodeO c q ≠ o := fun z => h _ z.symm
/-- what the object of the heap is -/
theorem RepO.mut {K : PySem.W.Frag} {H : Hp} {a : Addr} {o : GO} (h : RepO K H a o) : (∀ xs, H a ≠ some (.tup xs)) ∧ (∀ u v, H a ≠ some (.frz u (.lst v))) ∧ ∀ q, H a ≠ some (LamX.CodeO a q) := by
  have fin : ∀ {u : HO}, H a = some u → (∀ g, u ≠ .ext g) → (∀ xs, u ≠ .tup xs) → (∀ x v, u ≠ .frz x (.lst v)) → (∀ xs, H a ≠ some (.tup xs)) ∧ (∀ u v, H a ≠ some (.frz u (.lst v))) ∧ ∀ q, H a ≠ some (LamX.CodeO a q) := fun {u} e h1 h2 h3 => by
    rw [e]
    exact ⟨fun _ q => h2 _ (Option.some.inj q), fun _ _ q => h3 _ _ (Option.some.inj q), fun _ q => h1 _ (Option.some.inj q)⟩
  cases o with
  | lst xs => obtain ⟨vs, r, s⟩ := h; exact fin r (fun _ q => by cases q) (fun _ q => by cases q) (fun _ _ q => by cases q)
  | dK xs => obtain ⟨vs, r, s⟩ := h; exact fin r (fun _ q => by cases q) (fun _ q => by cases q) (fun _ _ q => by cases q)
  | dT xs => obtain ⟨vs, r, s⟩ := h; exact fin r (fun _ q => by cases q) (fun _ q => by cases q) (fun _ _ q => by cases q)
  | ins C xs => obtain ⟨d, vs, r, s⟩ := h; exact fin r (fun _ q => by cases q) (fun _ q => by cases q) (fun _ _ q => by cases q)
  | fz od ws xs => obtain ⟨r, s⟩ := h; exact fin r (fun _ q => by cases q) (fun _ q => by cases q) (fun _ _ q => by cases q)
  | tab q => obtain ⟨ps, r, s⟩ := h; exact fin r (fun _ q => by cases q) (fun _ q => by cases q) (fun _ _ q => by cases q)
  | dN P w xs =>
    obtain ⟨ys, r, _⟩ := h
    rw [r]
    exact ⟨fun _ q => (by cases q), fun _ _ q => (by cases q), fun q z => nes_ne_code q (Option.some.inj z).symm⟩
theorem kept_new {H : Hp} {p : Addr} {o : HO} (hp : H p = none) : Kept H (upd H p o) :=
  ⟨fun b xs h => by rw [upd_ne (ne_of_none h hp)]; exact h, fun b u v h => by rw [upd_ne (ne_of_none h hp)]; exact h, fun b q h => by rw [upd_ne (ne_of_none h hp)]; exact h⟩
/-- a new untold object -/
theorem ext_new {K : PySem.W.Frag} {G : Gp} {H : Hp} {p : Addr} {o : HO} (hg : SimG K G H) (hp : H p = none) : Ext G H G (upd H p o) ∧ SimG K G (upd H p o) := by
  have k : Kept H (upd H p o) := kept_new hp
  refine ⟨⟨k, fun b u h n => ⟨by rw [upd_ne (ne_of_none h hp)]; exact h, n⟩⟩, fun a u h => ?_⟩
  have hne : a ≠ p := fun e => by rw [e, hg.none hp] at h; cases h
  exact (hg a u h).up k (upd_ne hne)
/-- a new told object -/
theorem ext_alloc {K : PySem.W.Frag} {G : Gp} {H : Hp} {p : Addr} {o : HO} {g : GO} (hg : SimG K G H) (hp : H p = none) (r : Kept H (upd H p o) → RepO K (upd H p o) p g) :
    Ext G H (gset G p g) (upd H p o) ∧ SimG K (gset G p g) (upd H p o) := by
  have k : Kept H (upd H p o) := kept_new hp
  refine ⟨⟨k, fun b u h n => ⟨by rw [upd_ne (ne_of_none h hp)]; exact h, by rw [gset_ne (ne_of_none h hp)]; exact n⟩⟩, fun a u h => ?_⟩
  by_cases hne : a = p
  · subst hne
    rw [gset_same] at h; cases h
    exact r k
  · rw [gset_ne hne] at h
    exact (hg a u h).up k (upd_ne hne)
/-- a told object changed -/
theorem ext_write {K : PySem.W.Frag} {G : Gp} {H : Hp} {p : Addr} {o : HO} {g0 g : GO} (hg : SimG K G H) (h0 : G p = some g0) (r : Kept H (upd H p o) → RepO K (upd H p o) p g) :
    Ext G H (gset G p g) (upd H p o) ∧ SimG K (gset G p g) (upd H p o) := by
  have m := (hg p g0 h0).mut
  have k : Kept H (upd H p o) := ⟨fun b xs h => by rw [upd_ne (show b ≠ p from fun e => m.1 xs (by rw [← e]; exact h))]; exact h, fun b u v h => by rw [upd_ne (show b ≠ p from fun e => m.2.1 u v (by rw [← e]; exact h))]; exact h, fun b q h => by rw [upd_ne (show b ≠ p from fun e => m.2.2 q (by rw [← e]; exact h))]; exact h⟩
  have nb : ∀ b, G b = none → b ≠ p := fun b n e => by rw [e, h0] at n; cases n
  refine ⟨⟨k, fun b u h n => ⟨by rw [upd_ne (nb b n)]; exact h, by rw [gset_ne (nb b n)]; exact n⟩⟩, fun a u h => ?_⟩
  by_cases hne : a = p
  · subst hne
    rw [gset_same] at h; cases h
    exact r k
  · rw [gset_ne hne] at h
    exact (hg a u h).up k (upd_ne hne)

/-! ### readings -/
abbrev ASt := List (Option AV)
abbrev AK := AV → Gp → Prop
/-- what is wanted of an exception: by its class -/
abbrev AX := Value → Gp → Prop
abbrev AT := ASt → Gp → AK → AX → Prop
abbrev ATT := ASt → Gp → (Bool → Gp → Prop) → AX → Prop
abbrev ATA := ASt → Gp → (List AV → Gp → Prop) → AX → Prop
abbrev AXS := Value → ASt → Gp → Prop
def atX (E : AXS) (ρ : ASt) : AX := fun c G => E c ρ G
structure AEnds where
  nx : ASt → Gp → Prop
  rt : AK
  bk : ASt → Gp → Prop := fun _ _ => False
  ct : ASt → Gp → Prop := fun _ _ => False
  ex : AXS := fun _ _ _ => False
abbrev ATS := AEnds → ASt → Gp → Prop
/-- a def's promise: arguments, heap, the wanted end, the wanted exception -/
abbrev ASp := List AV → Gp → AK → AX → Prop

structure SimS (K : PySem.W.Frag) (ρ : ASt) (σ : St) (H : Hp) : Prop where
  len : ρ.length = σ.length
  get : ∀ (i : Nat) (x : AV), ρ[i]? = some (some x) → ∃ v, σ[i]? = some (some v) ∧ Rep K H x v
theorem SimS.up {K : PySem.W.Frag} {ρ : ASt} {σ : St} {H H' : Hp} (s : SimS K ρ σ H) (k : Kept H H') : SimS K ρ σ H' :=
  ⟨s.len, fun i x e => let ⟨v, h, r⟩ := s.get i x e; ⟨v, h, r.up k⟩⟩
theorem SimS.set {K : PySem.W.Frag} {ρ : ASt} {σ : St} {H : Hp} (s : SimS K ρ σ H) (i : Nat) {x : AV} {v : V} (r : Rep K H x v) : SimS K (ρ.set i (some x)) (σ.set i (some v)) H := by
  refine ⟨by rw [List.length_set, List.length_set]; exact s.len, fun j y e => ?_⟩
  by_cases hj : i = j
  · subst hj
    by_cases hi : i < ρ.length
    · rw [List.getElem?_set_self hi] at e
      cases e
      exact ⟨v, by rw [List.getElem?_set_self (by rw [← s.len]; exact hi)], r⟩
    · rw [List.getElem?_eq_none (by rw [List.length_set]; omega)] at e; cases e
  · rw [List.getElem?_set_ne hj] at e ⊢
    exact s.get j y e
theorem SimS.unset {K : PySem.W.Frag} {ρ : ASt} {σ : St} {H : Hp} (s : SimS K ρ σ H) (i : Nat) : SimS K (ρ.set i none) (σ.set i none) H := by
  refine ⟨by rw [List.length_set, List.length_set]; exact s.len, fun j y e => ?_⟩
  by_cases hj : i = j
  · subst hj
    by_cases hi : i < ρ.length
    · rw [List.getElem?_set_self hi] at e; cases e
    · rw [List.getElem?_eq_none (by rw [List.length_set]; omega)] at e; cases e
  · rw [List.getElem?_set_ne hj] at e ⊢
    exact s.get j y e

/-- the context's wish of exceptions -/
abbrev WW := Value → L2.St → Hp → Prop
def LX (K : PySem.W.Frag) (W : WW) (σ : L2.St) (G : Gp) (H : Hp) (E : AX) : Prop := ∀ c G' H', E c G' → Ext G H G' H' → SimG K G' H' → W c σ H'
theorem LX.up {K : PySem.W.Frag} {W : WW} {σ : L2.St} {G G1 : Gp} {H H1 : Hp} {E : AX} (l : LX K W σ G H E) (e : Ext G H G1 H1) : LX K W σ G1 H1 E := fun c G' H' h e' g => l c G' H' h (e.trans e') g
def LK (K : PySem.W.Frag) (G : Gp) (H : Hp) (Q0 : AK) (Q : VK) : Prop := ∀ x G' v H', Q0 x G' → Ext G H G' H' → SimG K G' H' → Rep K H' x v → Q v H'
theorem LK.up {K : PySem.W.Frag} {G G1 : Gp} {H H1 : Hp} {Q0 : AK} {Q : VK} (l : LK K G H Q0 Q) (e : Ext G H G1 H1) : LK K G1 H1 Q0 Q := fun x G' v H' h e' g r => l x G' v H' h (e.trans e') g r
def lowE (K : PySem.W.Frag) (W : WW) (t : AT) : TE := fun σ H Q => ∃ ρ G Q0 E0, SimS K ρ σ H ∧ SimG K G H ∧ t ρ G Q0 E0 ∧ LK K G H Q0 Q ∧ LX K W σ G H E0
def lowT (K : PySem.W.Frag) (W : WW) (t : ATT) : TT := fun σ H Q => ∃ ρ G Q0 E0, SimS K ρ σ H ∧ SimG K G H ∧ t ρ G Q0 E0 ∧ (∀ b G' H', Q0 b G' → Ext G H G' H' → SimG K G' H' → Q b H') ∧ LX K W σ G H E0
def lowA (K : PySem.W.Frag) (W : WW) (t : ATA) : TA := fun σ H Q => ∃ ρ G Q0 E0, SimS K ρ σ H ∧ SimG K G H ∧ t ρ G Q0 E0 ∧ (∀ xs G' vs H', Q0 xs G' → Ext G H G' H' → SimG K G' H' → RepL K H' xs vs → Q vs H') ∧ LX K W σ G H E0
def LXS (K : PySem.W.Frag) (W : WW) (G : Gp) (H : Hp) (E : AXS) : Prop := ∀ c ρ' G' σ' H', E c ρ' G' → Ext G H G' H' → SimG K G' H' → SimS K ρ' σ' H' → W c σ' H'
theorem LXS.up {K : PySem.W.Frag} {W : WW} {G G1 : Gp} {H H1 : Hp} {E : AXS} (l : LXS K W G H E) (e : Ext G H G1 H1) : LXS K W G1 H1 E := fun c ρ' G' σ' H' h e' g s => l c ρ' G' σ' H' h (e.trans e') g s
theorem LXS.at {K : PySem.W.Frag} {W : WW} {G : Gp} {H : Hp} {E : AXS} {ρ : ASt} {σ : L2.St} (l : LXS K W G H E) (s : SimS K ρ σ H) : LX K W σ G H (atX E ρ) := fun c G' H' h e g => l c ρ G' σ H' h e g (s.up e.toKept)
structure LEnds (K : PySem.W.Frag) (W : WW) (G : Gp) (H : Hp) (D0 : AEnds) (D : Ends) : Prop where
  nx : ∀ ρ' G' σ' H', D0.nx ρ' G' → Ext G H G' H' → SimG K G' H' → SimS K ρ' σ' H' → D.nx σ' H'
  rt : LK K G H D0.rt D.rt
  bk : ∀ ρ' G' σ' H', D0.bk ρ' G' → Ext G H G' H' → SimG K G' H' → SimS K ρ' σ' H' → D.bk σ' H'
  ct : ∀ ρ' G' σ' H', D0.ct ρ' G' → Ext G H G' H' → SimG K G' H' → SimS K ρ' σ' H' → D.ct σ' H'
  ex : LXS K W G H D0.ex
theorem LEnds.up {K : PySem.W.Frag} {W : WW} {G G1 : Gp} {H H1 : Hp} {D0 : AEnds} {D : Ends} (l : LEnds K W G H D0 D) (e : Ext G H G1 H1) : LEnds K W G1 H1 D0 D :=
  ⟨fun ρ' G' σ' H' h e' => l.nx ρ' G' σ' H' h (e.trans e'), l.rt.up e, fun ρ' G' σ' H' h e' => l.bk ρ' G' σ' H' h (e.trans e'), fun ρ' G' σ' H' h e' => l.ct ρ' G' σ' H' h (e.trans e'), l.ex.up e⟩
def lowS (K : PySem.W.Frag) (W : WW) (t : ATS) : TS := fun D σ H => ∃ ρ G D0, SimS K ρ σ H ∧ SimG K G H ∧ t D0 ρ G ∧ LEnds K W G H D0 D

abbrev AE (X : Cx) (W : WW) (e : Expr) (t : AT) : Prop := PE X e (lowE X.K W t)
abbrev ATest (X : Cx) (W : WW) (e : Expr) (t : ATT) : Prop := PT X e (lowT X.K W t)
abbrev AArgs (X : Cx) (W : WW) (es : List Expr) (t : ATA) : Prop := PA X es (lowA X.K W t)
abbrev AS (X : Cx) (W : WW) (st : Stmt) (t : ATS) : Prop := PS X st (lowS X.K W t)
abbrev ASs (X : Cx) (W : WW) (st : List Stmt) (t : ATS) : Prop := PSs X st (lowS X.K W t)
/-- the context takes what the wish tells -/
abbrev Tk (X : Cx) (W : WW) : Prop := Takes X fun c d σ H => d = none ∧ W c σ H

section
variable {X : Cx}
theorem peI {e : Expr} {t0 t1 : TE} (h : PE X e t0) (hi : ∀ σ H Q, t1 σ H Q → t0 σ H Q) : PE X e t1 := ⟨fun pins s σ H Q I q => h.run pins s σ H Q I (hi σ H Q q)⟩
theorem ptI {e : Expr} {t0 t1 : TT} (h : PT X e t0) (hi : ∀ σ H Q, t1 σ H Q → t0 σ H Q) : PT X e t1 := ⟨fun pins s σ H Q I q => h.run pins s σ H Q I (hi σ H Q q)⟩
theorem pwI {e : Expr} {t0 t1 : TT} (h : PW X e t0) (hi : ∀ σ H Q, t1 σ H Q → t0 σ H Q) : PW X e t1 := ⟨fun wh pins s σ H Q I q => h.run wh pins s σ H Q I (hi σ H Q q)⟩
theorem paI {e : List Expr} {t0 t1 : TA} (h : PA X e t0) (hi : ∀ σ H Q, t1 σ H Q → t0 σ H Q) : PA X e t1 := ⟨fun pos pins s σ H Q I q => h.run pos pins s σ H Q I (hi σ H Q q)⟩
theorem psI {e : Stmt} {t0 t1 : TS} (h : PS X e t0) (hi : ∀ D σ H, t1 D σ H → t0 D σ H) : PS X e t1 := ⟨fun pins s σ H Q I q => h.run pins s σ H Q I (hi Q σ H q)⟩
theorem pssI {e : List Stmt} {t0 t1 : TS} (h : PSs X e t0) (hi : ∀ D σ H, t1 D σ H → t0 D σ H) : PSs X e t1 := ⟨fun pins s σ H Q I q => h.run pins s σ H Q I (hi Q σ H q)⟩
end

def isB (x : AV) (P : Bool → Prop) : Prop := match x with | .bl c => P c | _ => False
def onInt (x : AV) (P : Int → Prop) : Prop := match x with | .int c => P c | _ => False
def onTup (x : AV) (P : List AV → Prop) : Prop := match x with | .tup c => P c | _ => False
def onRef (x : AV) (P : Addr → Prop) : Prop := match x with | .ref c => P c | _ => False
theorem isB_bl {b : Bool} {P : Bool → Prop} : isB (.bl b) P = P b := rfl
theorem onInt_int {b : Int} {P : Int → Prop} : onInt (.int b) P = P b := rfl
theorem onTup_tup {b : List AV} {P : List AV → Prop} : onTup (.tup b) P = P b := rfl
theorem onRef_ref {b : Addr} {P : Addr → Prop} : onRef (.ref b) P = P b := rfl
/-! ### names, constants -/
def aVar (i : Nat) : AT := fun ρ G Q _ => match ρ[i]? with | some (some x) => Q x G | _ => False
def aC (x : AV) : AT := fun _ G Q _ => Q x G
section
variable {X : Cx} {W : WW}
theorem ae_var {e : Expr} {i : Nat} (h : PE X e (tVar i)) : AE X W e (aVar i) := peI h fun σ H Q ⟨ρ, G, Q0, E0, hs, hg, h, hq, he⟩ => by
  unfold aVar at h
  split at h
  · rename_i x e
    obtain ⟨v, hv, r⟩ := hs.get i x e
    exact ⟨v, hv, hq _ _ _ _ h .refl hg r⟩
  · exact h.elim
theorem av (i : Nat) {x : Str} {pos : Pos} (hN : X.N[i]? = some x := by rfl) (hv : Vis X.env.scope x := by first | exact Or.inl rfl | exact Or.inr (Or.inl rfl) | exact Or.inr (Or.inr rfl)) (hd : (x == ("__debug__" : Str)) = false := by decide)
    (hcd : (x == ("__classdict__" : Str)) = false := by decide) : AE X W (.Name x pos) (aVar i) := ae_var (pe_var hN hv hd hcd)
theorem ae_c {e : Expr} {v : V} {x : AV} (h : PE X e (tC v)) (r : ∀ H, Rep X.K H x v) : AE X W e (aC x) := peI h fun σ H Q ⟨ρ, G, Q0, E0, hs, hg, h, hq, he⟩ => hq _ _ _ _ h .refl hg (r H)
theorem ae_int {i : Int} {j pos} : AE X W (.Constant (.int i) j pos) (aC (.int i)) := ae_c pe_int fun _ => .int i
theorem ae_bl {b : Bool} {j pos} : AE X W (.Constant (.bool b) j pos) (aC (.bl b)) := ae_c pe_bl fun _ => .bl b
theorem ae_non {j pos} : AE X W (.Constant .none j pos) (aC .non) := ae_c pe_non fun _ => .non
theorem ae_str {x : Str} {j pos} : AE X W (.Constant (.str x) j pos) (aC (.str x)) := ae_c pe_str fun _ => .str x
end

/-! ### operators -/
abbrev AF2 := AV → AV → Gp → AK → Prop
def aOp2 (f : AF2) (ta tb : AT) : AT := fun ρ G Q E => ta ρ G (fun x G1 => tb ρ G1 (fun y G2 => f x y G2 Q) E) E
def Lift2 (K : PySem.W.Frag) (r : R2) (f : AF2) : Prop :=
  ∀ x y v w G H Q0 Q, Rep K H x v → Rep K H y w → SimG K G H → f x y G Q0 → LK K G H Q0 Q → r v w H Q
theorem lift_op2 {K : PySem.W.Frag} {W : WW} {r : R2} {f : AF2} (hf : Lift2 K r f) {ta tb : AT} {σ : St} {H : Hp} {Q : VK} : lowE K W (aOp2 f ta tb) σ H Q → tOp r (lowE K W ta) (lowE K W tb) σ H Q := by
  rintro ⟨ρ, G, Q0, E0, hs, hg, h, hq, he⟩
  refine ⟨ρ, G, _, E0, hs, hg, h, ?_, he⟩
  intro x G1 v H1 h1 e1 g1 r1
  refine ⟨ρ, G1, _, E0, hs.up e1.toKept, g1, h1, ?_, he.up e1⟩
  intro y G2 w H2 h2 e2 g2 r2
  exact hf x y v w G2 H2 Q0 Q (r1.up e2.toKept) r2 g2 h2 (hq.up (e1.trans e2))
section
variable {X : Cx} {W : WW} {a b : Expr} {ta tb : AT} {pos : Pos}
theorem ae_op {op : Operator} {r : R2} {f : AF2} (ho : OpR X (binaryOp op) r) (hf : Lift2 X.K r f) (ha : AE X W a ta) (hb : AE X W b tb) : AE X W (.BinOp a op b pos) (aOp2 f ta tb) :=
  peI (pe_op ho ha hb) fun _ _ _ => lift_op2 hf
theorem ae_cmp {op : CmpOp} {r : R2} {f : AF2} (ho : OpR X (compareOp op) r) (hf : Lift2 X.K r f) (ha : AE X W a ta) (hb : AE X W b tb) (hm : behindInMarks op b = false := by first | exact nobehind _ (by decide) (by decide) | rfl) : AE X W (.Compare a [op] [b] pos) (aOp2 f ta tb) :=
  peI (pe_cmpR ho ha hb hm) fun _ _ _ => lift_op2 hf
/-- a value as a test -/
def aTest (t : AT) : ATT := fun ρ G Q E => t ρ G (fun x G1 => isB x fun b => Q b G1) E
theorem lift_test {K : PySem.W.Frag} {W : WW} {t : AT} {σ : St} {H : Hp} {Q : Bool → Hp → Prop} : lowT K W (aTest t) σ H Q → lowE K W t σ H (fun v H' => ∃ k, v = .bl k ∧ Q k H') := by
  rintro ⟨ρ, G, Q0, E0, hs, hg, h, hq, he⟩
  refine ⟨ρ, G, _, E0, hs, hg, h, ?_, he⟩
  intro x G1 v H1 h1 e1 g1 r1
  cases x with
  | bl k => cases r1; exact ⟨k, rfl, hq _ _ _ h1 e1 g1⟩
  | _ => exact False.elim h1
theorem at_cmp {op : CmpOp} {r : R2} {f : AF2} (ho : OpR X (compareOp op) r) (hf : Lift2 X.K r f) (ha : AE X W a ta) (hb : AE X W b tb) (hm : behindInMarks op b = false := by first | exact nobehind _ (by decide) (by decide) | rfl) : ATest X W (.Compare a [op] [b] pos) (aTest (aOp2 f ta tb)) :=
  ptI (pt_cmpR ho ha hb hm) fun σ H Q h => lift_op2 hf (lift_test h)
/-- an expression whose value is a bool -/
theorem at_val {e : Expr} {t : AT} (h : AE X W e t) (he : ∀ whole, isTrue e X.env whole = (do let v ← whole; standAt e.pos; holding [v] (truthy v)) := by intro _; rfl) : ATest X W e (aTest t) :=
  ptI (pt_val h he) fun _ _ _ h => lift_test h
end
end Rw
namespace Rw
open PySem L2

/-! ### arguments, displays -/
def aNil : ATA := fun _ G Q _ => Q [] G
def aCons (ta : AT) (tr : ATA) : ATA := fun ρ G Q E => ta ρ G (fun x G1 => tr ρ G1 (fun xs G2 => Q (x :: xs) G2) E) E
section
variable {X : Cx} {W : WW} {e : Expr} {es : List Expr} {pos : Pos}
theorem aa_nil : AArgs X W [] aNil := paI pa_nil fun σ H Q ⟨ρ, G, Q0, E0, hs, hg, h, hq, he⟩ => hq _ _ _ _ h .refl hg .nil
theorem lift_cons {K : PySem.W.Frag} {ta : AT} {tr : ATA} {σ : St} {H : Hp} {Q : List V → Hp → Prop} : lowA K W (aCons ta tr) σ H Q → tCons (lowE K W ta) (lowA K W tr) σ H Q := by
  rintro ⟨ρ, G, Q0, E0, hs, hg, h, hq, he⟩
  refine ⟨ρ, G, _, E0, hs, hg, h, ?_, he⟩
  intro x G1 v H1 h1 e1 g1 r1
  refine ⟨ρ, G1, _, E0, hs.up e1.toKept, g1, h1, ?_, he.up e1⟩
  intro xs G2 vs H2 h2 e2 g2 r2
  exact hq _ _ _ _ h2 (e1.trans e2) g2 (.cons (r1.up e2.toKept) r2)
theorem aa_cons {ta : AT} {tr : ATA} (ha : AE X W e ta) (hr : AArgs X W es tr) (hs : starEach (e :: es) X.env = (false, eval e X.env) :: starEach es X.env := by rfl) : AArgs X W (e :: es) (aCons ta tr) :=
  paI (pa_cons ha hr hs) fun _ _ _ => lift_cons
def aTup (t : ATA) : AT := fun ρ G Q E => t ρ G (fun xs G1 => xs.length ≤ sizeLine ∧ Q (.tup xs) G1) E
def aLst (t : ATA) : AT := fun ρ G Q E => t ρ G (fun xs G1 => xs.length ≤ sizeLine ∧ ∀ p G', New G1 p (.lst xs) G' → Q (.ref p) G') E
/-- a new tuple -/
theorem new_tup {K : PySem.W.Frag} {G : Gp} {H : Hp} {Q0 : AK} {Q : VK} {xs : List AV} {vs : List V} {p : Addr} (hg : SimG K G H) (r : RepL K H xs vs) (h : Q0 (.tup xs) G) (hq : LK K G H Q0 Q) (hp : H p = none) : Q (.ref p) (upd H p (.tup vs)) := by
  obtain ⟨e, g⟩ := ext_new (o := .tup vs) hg hp
  exact hq _ _ _ _ h e g (.tup upd_same (r.up e.toKept))
theorem new_lst {K : PySem.W.Frag} {G : Gp} {H : Hp} {Q0 : AK} {Q : VK} {xs : List AV} {vs : List V} {p : Addr} (hg : SimG K G H) (r : RepL K H xs vs) (h : ∀ p G', New G p (.lst xs) G' → Q0 (.ref p) G') (hq : LK K G H Q0 Q) (hp : H p = none) : Q (.ref p) (upd H p (.lst vs)) := by
  obtain ⟨e, g⟩ := ext_alloc (o := .lst vs) (g := .lst xs) hg hp fun k => ⟨vs, upd_same, r.up k⟩
  exact hq _ _ _ _ (h p _ ⟨rfl, hg.none hp⟩) e g (.ref p)
theorem ae_tup {x1} {t : ATA} (h : AArgs X W es t) : AE X W (.Tuple es x1 pos) (aTup t) := peI (pe_tup h) fun σ H Q ⟨ρ, G, Q0, E0, hs, hg, h, hq, he⟩ => by
  refine ⟨ρ, G, _, E0, hs, hg, h, ?_, he⟩
  intro xs G1 vs H1 ⟨hl, h1⟩ e1 g1 r1
  exact ⟨by rw [r1.length]; exact hl, fun p hp => new_tup g1 r1 h1 (hq.up e1) hp⟩
theorem ae_lst {t : ATA} (h : AArgs X W es t) : AE X W (.List es pos) (aLst t) := peI (pe_lst h) fun σ H Q ⟨ρ, G, Q0, E0, hs, hg, h, hq, he⟩ => by
  refine ⟨ρ, G, _, E0, hs, hg, h, ?_, he⟩
  intro xs G1 vs H1 ⟨hl, h1⟩ e1 g1 r1
  exact ⟨by rw [r1.length]; exact hl, fun p hp => new_lst g1 r1 h1 (hq.up e1) hp⟩
end

/-! ### calls by values -/
abbrev AFN := List AV → Gp → AK → Prop
def aCallB (f : AFN) (t : ATA) : AT := fun ρ G Q E => t ρ G (fun xs G1 => f xs G1 Q) E
def LiftN (K : PySem.W.Frag) (r : List V → Hp → VK → Prop) (f : AFN) : Prop :=
  ∀ xs vs G H Q0 Q, RepL K H xs vs → SimG K G H → f xs G Q0 → LK K G H Q0 Q → r vs H Q
theorem lift_callB {K : PySem.W.Frag} {W : WW} {r : List V → Hp → VK → Prop} {f : AFN} (hf : LiftN K r f) {t : ATA} {σ : St} {H : Hp} {Q : VK} : lowE K W (aCallB f t) σ H Q → tCB r (lowA K W t) σ H Q := by
  rintro ⟨ρ, G, Q0, E0, hs, hg, h, hq, he⟩
  refine ⟨ρ, G, _, E0, hs, hg, h, ?_, he⟩
  intro xs G1 vs H1 h1 e1 g1 r1
  exact hf _ _ _ _ _ _ r1 g1 h1 (hq.up e1)
section
variable {X : Cx} {W : WW} {x : Str} {p pos : Pos} {e : Expr} {es : List Expr} {t : ATA} {id T : String} {r : List V → Hp → VK → Prop} {f : AFN}
theorem ae_callB (hc : CallR X (.builtin id) r) (hf : LiftN X.K r f) (hm : X.mg x = none) (hv : bootBuiltins x = some (.builtin id)) (ha : AArgs X W (e :: es) t) (hg : Gl X x := by rfl) (hn : x ≠ "__name__" := by decide) (hdb : (x == ("__debug__" : Str)) = false := by decide)
    (he : starEach (e :: es) X.env = (false, eval e X.env) :: starEach es X.env := by rfl) (hpl : (backTo pos (starEach es X.env)).any (·.1) = false := by rfl) : AE X W (.Call (.Name x p) (e :: es) [] pos) (aCallB f t) :=
  peI (pe_callB hc hg hm hv ha hn hdb he hpl) fun _ _ _ => lift_callB hf
theorem ae_callTy (hc : CallR X (.type T) r) (hf : LiftN X.K r f) (hm : X.mg x = none) (hv : bootBuiltins x = some (.type T)) (ha : AArgs X W (e :: es) t) (hg : Gl X x := by rfl) (hn : x ≠ "__name__" := by decide) (hdb : (x == ("__debug__" : Str)) = false := by decide)
    (he : starEach (e :: es) X.env = (false, eval e X.env) :: starEach es X.env := by rfl) (hpl : (backTo pos (starEach es X.env)).any (·.1) = false := by rfl) : AE X W (.Call (.Name x p) (e :: es) [] pos) (aCallB f t) :=
  peI (pe_callTy hc hg hm hv ha hn hdb he hpl) fun _ _ _ => lift_callB hf
/-- a built-in class as a value -/
theorem ae_ty (hm : X.mg x = none) (hv : bootBuiltins x = some (.type T)) (hg : Gl X x := by rfl) (hn : x ≠ "__name__" := by decide) (hdb : (x == ("__debug__" : Str)) = false := by decide) : AE X W (.Name x pos) (aC (.ty T)) :=
  ae_c (v := V.ty T) (pe_bltn hg hm hv rfl hn hdb) fun _ => .ty T
/-- a module's constant -/
theorem ae_glob {v : V} {y : AV} {u : Value} (hm : X.mg x = some u) (r : RelV v u) (ry : ∀ H, Rep X.K H y v) (hg : Gl X x := by rfl) (hd : (x == ("__debug__" : Str)) = false := by decide) : AE X W (.Name x pos) (aC y) :=
  ae_c (pe_glob hg hm r hd) ry
end

/-! ### methods of built-in types -/
abbrev AFM := AV → List AV → Gp → AK → Prop
def isTy (T : String) (x : AV) (G : Gp) : Prop := match x with
  | .str _ => T = "str"
  | .ref a => match G a with
    | some (.lst _) => T = "list"
    | some (.dK _) => T = "dict"
    | _ => False
  | _ => False
def aBM (T : String) (f : AFM) (to : AT) (t : ATA) : AT := fun ρ G Q E => to ρ G (fun x G1 => isTy T x G1 ∧ t ρ G1 (fun xs G2 => f x xs G2 Q) E) E
def LiftM (K : PySem.W.Frag) (r : V → List V → Hp → VK → Prop) (f : AFM) : Prop :=
  ∀ x v xs vs G H Q0 Q, Rep K H x v → RepL K H xs vs → SimG K G H → f x xs G Q0 → LK K G H Q0 Q → r v vs H Q
theorem isTy.up {K : PySem.W.Frag} {T : String} {x : AV} {v : V} {G : Gp} {H : Hp} (h : isTy T x G) (r : Rep K H x v) (hg : SimG K G H) : tyV K T v H := by
  cases r with
  | str x => exact h
  | ref a =>
    unfold isTy at h
    simp only at h
    split at h
    · rename_i xs e
      obtain ⟨vs, hv, _⟩ := hg _ _ e
      exact .inl ⟨h, vs, SqL.of hv⟩
    · rename_i xs e
      obtain ⟨vs, hv, _⟩ := hg _ _ e
      exact .inr (.inr (.inl ⟨h, .inl ⟨vs, hv⟩⟩))
    · exact h.elim
  | _ => exact h.elim
section
variable {X : Cx} {W : WW} {o e : Expr} {es : List Expr} {to : AT} {t : ATA} {name : Str} {apos cpos : Pos} {T id : String} {r : V → List V → Hp → VK → Prop} {f : AFM}
theorem ae_bm (pa : PlainAttrs T) (slot : Slot T name id) (hty : typeOf (.builtin id) = pure (.type "method_descriptor")) (hm : MtR X id r) (hf : LiftM X.K r f) (ho : AE X W o to) (ha : AArgs X W (e :: es) t)
    (hbase : attributeBase o name X.env (eval o X.env) = eval o X.env := by rfl)
    (hfew : ((backTo cpos (starEach (e :: es) X.env)).all (fun x => !x.1) && (backToKw cpos (keywordEach [] X.env)).all (fun x => x.1.isSome)
      && decide ((e :: es).length + ([] : List Keyword).length + (if ([] : List Keyword).isEmpty then 0 else 1) < 30)) = true := by rfl)
    (hline : (apos.endLine == cpos.line) = true := by rfl) (hs : starEach (e :: es) X.env = (false, eval e X.env) :: starEach es X.env := by rfl) (hplain : (backTo cpos (starEach es X.env)).any (·.1) = false := by rfl) :
    AE X W (.Call (.Attribute o name apos) (e :: es) [] cpos) (aBM T f to t) :=
  peI (pe_bm pa slot hty hm ho ha hbase hfew hline hs hplain) fun σ H Q ⟨ρ, G, Q0, E0, hs, hg, h, hq, he⟩ => by
    refine ⟨ρ, G, _, E0, hs, hg, h, ?_, he⟩
    intro x G1 v H1 ⟨ht, h1⟩ e1 g1 r1
    refine ⟨ht.up r1 g1, ρ, G1, _, E0, hs.up e1.toKept, g1, h1, ?_, he.up e1⟩
    intro xs G2 vs H2 h2 e2 g2 r2
    exact hf _ _ _ _ _ _ _ _ (r1.up e2.toKept) r2 g2 h2 (hq.up (e1.trans e2))
theorem ae_bm0 (pa : PlainAttrs T) (slot : Slot T name id) (hty : typeOf (.builtin id) = pure (.type "method_descriptor")) (hm : MtR X id r) (hf : LiftM X.K r f) (ho : AE X W o to)
    (hbase : attributeBase o name X.env (eval o X.env) = eval o X.env := by rfl) (hline : (apos.endLine == cpos.line) = true := by rfl) :
    AE X W (.Call (.Attribute o name apos) [] [] cpos) (aBM T f to aNil) :=
  peI (pe_bm0 pa slot hty hm ho hbase hline) fun σ H Q ⟨ρ, G, Q0, E0, hs, hg, h, hq, he⟩ => by
    refine ⟨ρ, G, _, E0, hs, hg, h, ?_, he⟩
    intro x G1 v H1 ⟨ht, h1⟩ e1 g1 r1
    exact ⟨ht.up r1 g1, hf _ _ _ _ _ _ _ _ r1 .nil g1 h1 (hq.up e1)⟩
end

/-! ### and, or, not -/
def aAnd (t u : ATT) : ATT := fun ρ G Q E => t ρ G (fun c G1 => if c = true then u ρ G1 Q E else Q false G1) E
def aOr (t u : ATT) : ATT := fun ρ G Q E => t ρ G (fun c G1 => if c = true then Q true G1 else u ρ G1 Q E) E
def aNot (t : ATT) : ATT := fun ρ G Q E => t ρ G (fun c G1 => Q (!c) G1) E
abbrev ATw (X : Cx) (W : WW) (e : Expr) (t : ATT) : Prop := PW X e (lowT X.K W t)
section
variable {X : Cx} {W : WW} {a b : Expr} {rest : List Expr} {tA tB : ATT} {ta tb : AT} {pos : Pos}
theorem aw_and1 (ha : ATest X W a tA) : ATw X W (.BoolOp .And [a] pos) tA := pw_and1 ha
theorem aw_or1 (ha : ATest X W a tA) : ATw X W (.BoolOp .Or [a] pos) tA := pw_or1 ha
theorem aw_and (ha : ATest X W a tA) (hb : ATw X W (.BoolOp .And (b :: rest) pos) tB) : ATw X W (.BoolOp .And (a :: b :: rest) pos) (aAnd tA tB) :=
  pwI (pw_and ha hb) fun σ H Q ⟨ρ, G, Q0, E0, hs, hg, h, hq, he⟩ => by
    refine ⟨ρ, G, _, E0, hs, hg, h, ?_, he⟩
    intro c G1 H1 h1 e1 g1
    cases c with
    | true => exact ⟨ρ, G1, _, E0, hs.up e1.toKept, g1, h1, fun b G' H' h2 e2 g2 => hq _ _ _ h2 (e1.trans e2) g2, he.up e1⟩
    | false => exact hq _ _ _ h1 e1 g1
theorem aw_or (ha : ATest X W a tA) (hb : ATw X W (.BoolOp .Or (b :: rest) pos) tB) : ATw X W (.BoolOp .Or (a :: b :: rest) pos) (aOr tA tB) :=
  pwI (pw_or ha hb) fun σ H Q ⟨ρ, G, Q0, E0, hs, hg, h, hq, he⟩ => by
    refine ⟨ρ, G, _, E0, hs, hg, h, ?_, he⟩
    intro c G1 H1 h1 e1 g1
    cases c with
    | false => exact ⟨ρ, G1, _, E0, hs.up e1.toKept, g1, h1, fun b G' H' h2 e2 g2 => hq _ _ _ h2 (e1.trans e2) g2, he.up e1⟩
    | true => exact hq _ _ _ h1 e1 g1
theorem at_w {e : Expr} (h : ATw X W e tA) : ATest X W e tA := h.pt
theorem at_not (ha : ATest X W a tA) : ATest X W (.UnaryOp .Not a pos) (aNot tA) :=
  ptI (pt_not ha) fun σ H Q ⟨ρ, G, Q0, E0, hs, hg, h, hq, he⟩ => ⟨ρ, G, _, E0, hs, hg, h, fun c G1 H1 h1 e1 g1 => hq _ _ _ h1 e1 g1, he⟩
/-- .. as values -/
def aAndV (t u : AT) : AT := fun ρ G Q E => t ρ G (fun x G1 => isB x fun c => if c = true then u ρ G1 Q E else Q (.bl false) G1) E
def aOrV (t u : AT) : AT := fun ρ G Q E => t ρ G (fun x G1 => isB x fun c => if c = true then Q (.bl true) G1 else u ρ G1 Q E) E
def aNotV (t : AT) : AT := fun ρ G Q E => t ρ G (fun x G1 => isB x fun c => Q (.bl (!c)) G1) E
theorem ae_one {op} (h : AE X W a ta) : AE X W (.BoolOp op [a] pos) ta := pe_one h
theorem ae_and (ha : AE X W a ta) (hb : AE X W (.BoolOp .And (b :: rest) pos) tb) : AE X W (.BoolOp .And (a :: b :: rest) pos) (aAndV ta tb) :=
  peI (pe_and ha hb) fun σ H Q ⟨ρ, G, Q0, E0, hs, hg, h, hq, he⟩ => by
    refine ⟨ρ, G, _, E0, hs, hg, h, ?_, he⟩
    intro x G1 v H1 h1 e1 g1 r1
    cases r1 with
    | bl c =>
      refine ⟨c, rfl, ?_⟩
      have h1 : if c = true then tb ρ G1 Q0 E0 else Q0 (.bl false) G1 := h1
      cases c with
      | true => exact ⟨ρ, G1, Q0, E0, hs.up e1.toKept, g1, h1, hq.up e1, he.up e1⟩
      | false => exact hq _ _ _ _ h1 e1 g1 (.bl _)
    | _ => exact False.elim h1
theorem ae_or (ha : AE X W a ta) (hb : AE X W (.BoolOp .Or (b :: rest) pos) tb) : AE X W (.BoolOp .Or (a :: b :: rest) pos) (aOrV ta tb) :=
  peI (pe_or ha hb) fun σ H Q ⟨ρ, G, Q0, E0, hs, hg, h, hq, he⟩ => by
    refine ⟨ρ, G, _, E0, hs, hg, h, ?_, he⟩
    intro x G1 v H1 h1 e1 g1 r1
    cases r1 with
    | bl c =>
      refine ⟨c, rfl, ?_⟩
      have h1 : if c = true then Q0 (.bl true) G1 else tb ρ G1 Q0 E0 := h1
      cases c with
      | false => exact ⟨ρ, G1, Q0, E0, hs.up e1.toKept, g1, h1, hq.up e1, he.up e1⟩
      | true => exact hq _ _ _ _ h1 e1 g1 (.bl _)
    | _ => exact False.elim h1
theorem ae_not (ha : AE X W a ta) : AE X W (.UnaryOp .Not a pos) (aNotV ta) :=
  peI (pe_not ha) fun σ H Q ⟨ρ, G, Q0, E0, hs, hg, h, hq, he⟩ => by
    refine ⟨ρ, G, _, E0, hs, hg, h, ?_, he⟩
    intro x G1 v H1 h1 e1 g1 r1
    cases r1 with
    | bl c => exact ⟨c, rfl, hq _ _ _ _ h1 e1 g1 (.bl _)⟩
    | _ => exact False.elim h1
/-- a op b op c -/
def aChain (f g : AF2) (ta tb tc : AT) : AT := fun ρ G Q E => ta ρ G (fun x G1 => tb ρ G1 (fun y G2 => f x y G2 fun z G3 => isB z fun k => if k = true then tc ρ G3 (fun w G4 => g y w G4 Q) E else Q (.bl false) G3) E) E
theorem lift_chain {K : PySem.W.Frag} {W : WW} {r r' : R2} {f g : AF2} (hf : Lift2 K r f) (hf' : Lift2 K r' g) {ta tb tc : AT} {σ : St} {H : Hp} {Q : VK} : lowE K W (aChain f g ta tb tc) σ H Q → tChain r r' (lowE K W ta) (lowE K W tb) (lowE K W tc) σ H Q := by
  rintro ⟨ρ, G, Q0, E0, hs, hg, h, hq, he⟩
  refine ⟨ρ, G, _, E0, hs, hg, h, ?_, he⟩
  intro x G1 v H1 h1 e1 g1 r1
  refine ⟨ρ, G1, _, E0, hs.up e1.toKept, g1, h1, ?_, he.up e1⟩
  intro y G2 w H2 h2 e2 g2 r2
  refine hf _ _ _ _ _ _ _ _ (r1.up e2.toKept) r2 g2 h2 ?_
  intro z G3 z' H3 h3 e3 g3 r3
  cases r3 with
  | bl k =>
    refine ⟨k, rfl, ?_⟩
    have h3 : if k = true then tc ρ G3 (fun w G4 => g y w G4 Q0) E0 else Q0 (.bl false) G3 := h3
    cases k with
    | true =>
      refine ⟨ρ, G3, _, E0, hs.up ((e1.trans e2).trans e3).toKept, g3, h3, ?_, he.up ((e1.trans e2).trans e3)⟩
      intro w' G4 v' H4 h4 e4 g4 r4
      exact hf' _ _ _ _ _ _ _ _ (r2.up (e3.trans e4).toKept) r4 g4 h4 (hq.up (((e1.trans e2).trans e3).trans e4))
    | false => exact hq _ _ _ _ h3 ((e1.trans e2).trans e3) g3 (.bl _)
  | _ => exact False.elim h3
variable {c : Expr} {tc : AT}
theorem ae_chain {op op' : CmpOp} {r r' : R2} {f g : AF2} (ho : OpR X (compareOp op) r) (hf : Lift2 X.K r f) (ho' : OpR X (compareOp op') r') (hf' : Lift2 X.K r' g) (ha : AE X W a ta) (hb : AE X W b tb) (hc : AE X W c tc)
    (hm : lastMarks [op, op'] [b, c] = false := by with_unfolding_all rfl) : AE X W (.Compare a [op, op'] [b, c] pos) (aChain f g ta tb tc) := peI (pe_chain ho ho' ha hb hc hm) fun _ _ _ => lift_chain hf hf'
theorem at_chain {op op' : CmpOp} {r r' : R2} {f g : AF2} (ho : OpR X (compareOp op) r) (hf : Lift2 X.K r f) (ho' : OpR X (compareOp op') r') (hf' : Lift2 X.K r' g) (ha : AE X W a ta) (hb : AE X W b tb) (hc : AE X W c tc)
    (hm : lastMarks [op, op'] [b, c] = false := by with_unfolding_all rfl) : ATest X W (.Compare a [op, op'] [b, c] pos) (aTest (aChain f g ta tb tc)) := ptI (pt_chain ho ho' ha hb hc hm) fun _ _ _ h => lift_chain hf hf' (lift_test h)
/-- a value's truth -/
def truA (x : AV) (G : Gp) (P : Bool → Prop) : Prop := match x with
  | .bl b => P b
  | .non => P false
  | .int i => P (i != 0)
  | .tup xs => P (!xs.isEmpty)
  | .ref a => match G a with
    | some (.lst xs) => P (!xs.isEmpty)
    | some (.dK xs) => P (!xs.isEmpty)
    | _ => False
  | _ => False
def aTruth (t : AT) : ATT := fun ρ G Q E => t ρ G (fun x G1 => truA x G1 fun b => Q b G1) E
theorem RepL.isEmpty {K : PySem.W.Frag} {H : Hp} {xs : List AV} {vs : List V} (r : RepL K H xs vs) : vs.isEmpty = xs.isEmpty := by
  cases r <;> rfl
theorem at_truth {e : Expr} {t : AT} (h : AE X W e t) (he : ∀ whole, isTrue e X.env whole = (do let v ← whole; standAt e.pos; holding [v] (truthy v)) := by intro _; rfl) : ATest X W e (aTruth t) :=
  ptI (pt_truth h he) fun σ H Q ⟨ρ, G, Q0, E0, hs, hg, h, hq, he⟩ => by
    refine ⟨ρ, G, _, E0, hs, hg, h, ?_, he⟩
    intro x G1 v H1 h1 e1 g1 r1
    cases r1 with
    | bl c => exact ⟨c, rfl, hq _ _ _ h1 e1 g1⟩
    | non => exact ⟨false, rfl, hq _ _ _ h1 e1 g1⟩
    | int i => exact ⟨_, rfl, hq _ _ _ h1 e1 g1⟩
    | tup ht hl => exact ⟨_, .inr (.inl ⟨_, SqT.of ht, by rw [hl.isEmpty]⟩), hq _ _ _ h1 e1 g1⟩
    | ref a =>
      unfold truA at h1
      simp only at h1
      split at h1
      · rename_i xs e
        obtain ⟨vs, hv, hr⟩ := g1 _ _ e
        exact ⟨_, .inl ⟨_, SqL.of hv, by rw [hr.isEmpty]⟩, hq _ _ _ h1 e1 g1⟩
      · rename_i xs e
        obtain ⟨vs, hv, hr⟩ := g1 _ _ e
        refine ⟨_, .inr (.inr ⟨_, hv, ?_⟩), hq _ _ _ h1 e1 g1⟩
        cases hr <;> rfl
      · exact h1.elim
    | _ => exact False.elim h1
end

/-! ### small statements -/
def aNext : ATS := fun D ρ G => D.nx ρ G
def aSeq (t u : ATS) : ATS := fun D ρ G => t { D with nx := u D } ρ G
def aExpr (t : AT) : ATS := fun D ρ G => t ρ G (fun _ G1 => D.nx ρ G1) (atX D.ex ρ)
def aRet (t : AT) : ATS := fun D ρ G => t ρ G D.rt (atX D.ex ρ)
def aRetN : ATS := fun D _ G => D.rt .non G
def aIf (c : ATT) (t u : ATS) : ATS := fun D ρ G => c ρ G (fun b G1 => if b = true then t D ρ G1 else u D ρ G1) (atX D.ex ρ)
def aBrk : ATS := fun D ρ G => D.bk ρ G
def aCnt : ATS := fun D ρ G => D.ct ρ G
section
variable {X : Cx} {W : WW} {st : Stmt} {rest : List Stmt} {t u : ATS} {e : Expr} {te : AT} {pos : Pos}
theorem as_nil : ASs X W [] aNext := pssI pss_nil fun D σ H ⟨ρ, G, D0, hs, hg, h, hd⟩ => hd.nx _ _ _ _ h .refl hg hs
theorem as_cons (h1 : AS X W st t) (h2 : ASs X W rest u) : ASs X W (st :: rest) (aSeq t u) := pssI (pss_cons h1 h2) fun D σ H ⟨ρ, G, D0, hs, hg, h, hd⟩ => by
  refine ⟨ρ, G, _, hs, hg, h, ⟨?_, hd.rt, hd.bk, hd.ct, hd.ex⟩⟩
  intro ρ' G' σ' H' h1 e1 g1 s1
  exact ⟨ρ', G', D0, s1, g1, h1, hd.up e1⟩
theorem as_one (h1 : AS X W st t) : ASs X W [st] t := pss_one h1
theorem as_pass : AS X W (.Pass pos) aNext := psI ps_pass fun D σ H ⟨ρ, G, D0, hs, hg, h, hd⟩ => hd.nx _ _ _ _ h .refl hg hs
theorem as_brk : AS X W (.Break pos) aBrk := psI ps_break fun D σ H ⟨ρ, G, D0, hs, hg, h, hd⟩ => hd.bk _ _ _ _ h .refl hg hs
theorem as_cnt : AS X W (.Continue pos) aCnt := psI ps_continue fun D σ H ⟨ρ, G, D0, hs, hg, h, hd⟩ => hd.ct _ _ _ _ h .refl hg hs
theorem as_expr (he : AE X W e te) (hs : swapsWith e none pos.line X.env = pure false := by rfl) : AS X W (.Expr e pos) (aExpr te) := psI (ps_expr he hs) fun D σ H ⟨ρ, G, D0, hs, hg, h, hd⟩ =>
  ⟨ρ, G, _, _, hs, hg, h, fun x G' v H' h1 e1 g1 r1 => hd.nx _ _ _ _ h1 e1 g1 (hs.up e1.toKept), hd.ex.at hs⟩
theorem as_ret (he : AE X W e te) : AS X W (.Return (some e) pos) (aRet te) := psI (ps_ret he) fun D σ H ⟨ρ, G, D0, hs, hg, h, hd⟩ => ⟨ρ, G, _, _, hs, hg, h, hd.rt, hd.ex.at hs⟩
theorem as_retN : AS X W (.Return none pos) aRetN := psI ps_retN fun D σ H ⟨ρ, G, D0, hs, hg, h, hd⟩ => hd.rt _ _ _ _ h .refl hg .non
theorem as_if {c : Expr} {a b : List Stmt} {tc : ATT} (hc : ATest X W c tc) (ha : ASs X W a t) (hb : ASs X W b u) : AS X W (.If c a b pos) (aIf tc t u) := psI (ps_if hc ha hb) fun D σ H ⟨ρ, G, D0, hs, hg, h, hd⟩ => by
  refine ⟨ρ, G, _, _, hs, hg, h, ?_, hd.ex.at hs⟩
  intro b G1 H1 h1 e1 g1
  cases b with
  | true => exact ⟨ρ, G1, D0, hs.up e1.toKept, g1, h1, hd.up e1⟩
  | false => exact ⟨ρ, G1, D0, hs.up e1.toKept, g1, h1, hd.up e1⟩
/-- code that is never come to -/
def aNever : ATS := fun _ _ _ => False
theorem as_never : AS X W st aNever := psI ps_never fun D σ H ⟨ρ, G, D0, hs, hg, h, hd⟩ => h.elim

/-! ### targets -/
abbrev ATG := AV → ASt → Gp → (ASt → Gp → Prop) → AXS → Prop
abbrev ATGs := List AV → ASt → Gp → (ASt → Gp → Prop) → AXS → Prop
end
def lowG (K : PySem.W.Frag) (W : WW) (g : ATG) : TG := fun v σ H Q => ∃ x ρ G Q0 E0, Rep K H x v ∧ SimS K ρ σ H ∧ SimG K G H ∧ g x ρ G Q0 E0 ∧ (∀ ρ' G' σ' H', Q0 ρ' G' → Ext G H G' H' → SimG K G' H' → SimS K ρ' σ' H' → Q σ' H') ∧ LXS K W G H E0
def lowGs (K : PySem.W.Frag) (W : WW) (g : ATGs) : TGs := fun vs σ H Q => ∃ xs ρ G Q0 E0, RepL K H xs vs ∧ SimS K ρ σ H ∧ SimG K G H ∧ g xs ρ G Q0 E0 ∧ (∀ ρ' G' σ' H', Q0 ρ' G' → Ext G H G' H' → SimG K G' H' → SimS K ρ' σ' H' → Q σ' H') ∧ LXS K W G H E0
abbrev AG (X : Cx) (W : WW) (e : Expr) (g : ATG) : Prop := PG X e (lowG X.K W g)
abbrev AGs (X : Cx) (W : WW) (e : List Expr) (g : ATGs) : Prop := PGs X e (lowGs X.K W g)
def agName (i : Nat) : ATG := fun x ρ G Q _ => Q (ρ.set i (some x)) G
def agNil : ATGs := fun xs ρ G Q _ => xs = [] ∧ Q ρ G
def onCons (xs : List AV) (P : AV → List AV → Prop) : Prop := match xs with | x :: r => P x r | [] => False
theorem onCons_cons {x : AV} {r : List AV} {P : AV → List AV → Prop} : onCons (x :: r) P = P x r := rfl
def agCons (t : ATG) (u : ATGs) : ATGs := fun xs ρ G Q E => onCons xs fun x r => t x ρ G (fun ρ' G' => u r ρ' G' Q E) E
def agTup (t : ATGs) (n : Nat) : ATG := fun x ρ G Q E => onTup x fun xs => xs.length = n ∧ t xs ρ G Q E
section
variable {X : Cx} {W : WW} {pos : Pos}
theorem ag_name {i : Nat} {x : Str} (hN : X.N.Nodup) (hi : X.N[i]? = some x) (hx : Loc X.env.scope x) (hf : X.fn x = true ∨ X.env.scope.names.lookup x = some .local := by first | exact .inl rfl | exact .inr rfl | assumption) : AG X W (.Name x pos) (agName i) :=
  ⟨fun pins s σ H v u Q I r ⟨x, ρ, G, Q0, E0, rx, hs, hg, h, hq, he⟩ => (pg_name hN hi hx hf).run pins s σ H v u Q I r (hq _ _ _ _ h .refl hg (hs.set i rx))⟩
theorem ags_nil : AGs X W [] agNil := ⟨fun pins s σ H vs us Q I r ⟨xs, ρ, G, Q0, E0, rx, hs, hg, h, hq, he⟩ => by
  obtain ⟨rfl, h⟩ := h
  cases rx
  exact pgs_nil.run pins s σ H [] us Q I r ⟨rfl, hq _ _ _ _ h .refl hg hs⟩⟩
theorem ags_cons {e : Expr} {es : List Expr} {t : ATG} {u : ATGs} (h1 : AG X W e t) (h2 : AGs X W es u)
    (hs : (assignEach (e :: es) X.env).map (·.2) = assign e X.env :: (assignEach es X.env).map (·.2) := by rfl) : AGs X W (e :: es) (agCons t u) := ⟨fun pins s σ H vs us Q I r ⟨xs, ρ, G, Q0, E0, rx, hS, hg, h, hq, he⟩ => by
  cases rx with
  | nil => exact h.elim
  | cons r1 r2 =>
    refine (pgs_cons h1 h2 hs).run pins s σ H _ us Q I r ⟨_, _, rfl, _, ρ, G, _, E0, r1, hS, hg, h, ?_, he⟩
    intro ρ' G' σ' H' h3 e3 g3 s3
    exact ⟨_, ρ', G', Q0, E0, r2.up e3.toKept, s3, g3, h3, fun ρ4 G4 σ4 H4 h4 e4 => hq _ _ _ _ h4 (e3.trans e4), he.up e3⟩⟩
theorem ag_tup {es : List Expr} {k : Nat} {t : ATGs} {n : Nat} (hc : X.calm = true) (h : AGs X W es t)
    (hn : (assignEach es X.env).length = n := by rfl) (hst : (assignEach es X.env).findIdx? (·.1) = none := by rfl) : AG X W (.Tuple es k pos) (agTup t n) := ⟨fun pins s σ H v u Q I r ⟨x, ρ, G, Q0, E0, rx, hS, hg, h2, hq, he⟩ => by
  cases rx with
  | tup ht hl =>
    obtain ⟨hln, h2⟩ := h2
    exact (pg_tup hc h hn hst).run pins s σ H _ u Q I r ⟨_, _, rfl, SqT.of ht, by rw [hl.length]; exact hln, _, ρ, G, Q0, E0, hl, hS, hg, h2, hq, he⟩
  | _ => exact h2.elim⟩
/-- name = e -/
def aSet (i : Nat) (te : AT) : ATS := fun D ρ G => te ρ G (fun x G1 => D.nx (ρ.set i (some x)) G1) (atX D.ex ρ)
theorem as_set {i : Nat} {x : Str} {e : Expr} {te : AT} {pos' : Pos} (hN : X.N.Nodup) (hi : X.N[i]? = some x) (hx : Loc X.env.scope x) (he : AE X W e te) (hs : swapsWith e (some (.Name x pos')) pos.line X.env = pure false := by rfl) (hf : X.fn x = true ∨ X.env.scope.names.lookup x = some .local := by first | exact .inl rfl | exact .inr rfl | assumption) :
    AS X W (.Assign [.Name x pos'] e pos) (aSet i te) := psI (ps_set hN hi hx he hs hf) fun D σ H ⟨ρ, G, D0, hs, hg, h, hd⟩ =>
  ⟨ρ, G, _, _, hs, hg, h, fun x G' v H' h1 e1 g1 r1 => hd.nx _ _ _ _ h1 e1 g1 ((hs.up e1.toKept).set i r1), hd.ex.at hs⟩
/-- target = e -/
def aAsg (te : AT) (g : ATG) : ATS := fun D ρ G => te ρ G (fun x G1 => g x ρ G1 D.nx D.ex) (atX D.ex ρ)
theorem as_asg {tg e : Expr} {te : AT} {g : ATG} (he : AE X W e te) (hg : AG X W tg g) (hs : swapsWithSole [tg] e pos.line X.env = pure false := by rfl) (hw : swappedStores [tg] e X.env = pure none := by rfl)
    (h1 : (assignEach [tg] X.env).map (·.2) = [assign tg X.env] := by rfl) : AS X W (.Assign [tg] e pos) (aAsg te g) := psI (ps_asg he hg hs hw h1) fun D σ H ⟨ρ, G, D0, hs, hg, h, hd⟩ =>
  ⟨ρ, G, _, _, hs, hg, h, fun x G' v H' h1 e1 g1 r1 => ⟨x, ρ, G', _, _, r1, hs.up e1.toKept, g1, h1, fun ρ' G2 σ' H2 h2 e2 => hd.nx _ _ _ _ h2 (e1.trans e2), hd.ex.up e1⟩, hd.ex.at hs⟩
/-- a, b = c, d (plain local names) -/
def aPar (i j : Nat) (ta : ATA) : ATS := fun D ρ G => ta ρ G (fun xs G1 => onCons xs fun x r => onCons r fun y r => r = [] ∧ D.nx ((ρ.set i (some x)).set j (some y)) G1) (atX D.ex ρ)
theorem as_par {i j : Nat} {x y : Str} {a b : Expr} {ta : ATA} {px py pt : Pos} {kt k2 pt2} (hc : X.calm = true) (hN : X.N.Nodup) (hi : X.N[i]? = some x) (hj : X.N[j]? = some y) (hij : i ≠ j)
    (hx : X.env.scope.names.lookup x = some .local) (hy : X.env.scope.names.lookup y = some .local) (ha : AArgs X W [a, b] ta)
    (hw : swappedStores [.Tuple [.Name x px, .Name y py] kt pt] (.Tuple [a, b] k2 pt2) X.env = pure (some [x, y]))
    (hs : swapsWithSole [.Tuple [.Name x px, .Name y py] kt pt] (.Tuple [a, b] k2 pt2) pos.line X.env = pure false := by rfl) :
    AS X W (.Assign [.Tuple [.Name x px, .Name y py] kt pt] (.Tuple [a, b] k2 pt2) pos) (aPar i j ta) := psI (ps_par hc hN hi hj hij hx hy ha hw hs) fun D σ H ⟨ρ, G, D0, hs, hg, h, hd⟩ => by
  refine ⟨ρ, G, _, _, hs, hg, h, ?_, hd.ex.at hs⟩
  intro xs G1 vs H1 h1 e1 g1 r1
  cases r1 with
  | nil => exact h1.elim
  | cons r2 t =>
    cases t with
    | nil => exact h1.elim
    | cons r3 t =>
      obtain ⟨rfl, h1⟩ := h1
      cases t
      exact ⟨_, _, rfl, hd.nx _ _ _ _ h1 e1 g1 (((hs.up e1.toKept).set i r2).set j r3)⟩
/-- o[i] = v -/
abbrev ASet := AV → AV → AV → Gp → (Gp → Prop) → Prop
def agSub (to ti : AT) (f : ASet) : ATG := fun x ρ G Q E => to ρ G (fun o G1 => ti ρ G1 (fun i G2 => f o i x G2 fun G3 => Q ρ G3) (atX E ρ)) (atX E ρ)
def LiftSet (K : PySem.W.Frag) (t : TSet) (f : ASet) : Prop := ∀ o i x v1 v2 v3 G H (Q0 : Gp → Prop) (Q : Hp → Prop), Rep K H o v1 → Rep K H i v2 → Rep K H x v3 → SimG K G H → f o i x G Q0 → (∀ G' H', Q0 G' → Ext G H G' H' → SimG K G' H' → Q H') → t v1 v2 v3 H Q
theorem ag_sub {o i : Expr} {to ti : AT} {t : TSet} {f : ASet} (ho : AE X W o to) (hi : AE X W i ti) (hs : PSet X t) (hf : LiftSet X.K t f)
    (ha : ∀ v, assign (.Subscript o i pos) X.env v = (do
      let ov ← holding [v] (eval o X.env)
      let iv ← holding [v, ov] (eval i X.env)
      standAt pos
      holding [v, ov, iv] (setItem ov iv v)
      release [v, ov, iv] []) := by intro _; rfl) : AG X W (.Subscript o i pos) (agSub to ti f) := ⟨fun pins s σ H v u Q I r ⟨x, ρ, G, Q0, E0, rx, hS, hg, h2, hq, he⟩ => by
  refine (pg_sub ho hi hs ha).run pins s σ H v u Q I r ⟨ρ, G, _, _, hS, hg, h2, ?_, he.at hS⟩
  intro y G1 v1 H1 h1 e1 g1 r1
  refine ⟨ρ, G1, _, _, hS.up e1.toKept, g1, h1, ?_, (he.at hS).up e1⟩
  intro z G2 v2 H2 h2 e2 g2 r2
  exact hf _ _ _ _ _ _ _ _ _ _ (r1.up e2.toKept) r2 (rx.up (e1.trans e2).toKept) g2 h2 fun G3 H3 h3 e3 g3 => hq _ _ _ _ h3 ((e1.trans e2).trans e3) g3 (hS.up ((e1.trans e2).trans e3).toKept)⟩
end

/-! ### loops -/
def loopI (g : ATG) (tb : ATS) (xs : List AV) (al : Gp → Prop) (D : AEnds) (ρ : ASt) (G : Gp) : Prop :=
  ∃ I : Nat → ASt → Gp → Prop, I 0 ρ G ∧ (∀ i ρ G, I i ρ G → al G) ∧
    (∀ i x ρ G, xs[i]? = some x → I i ρ G → g x ρ G (fun ρ2 G2 => tb { D with nx := I (i + 1), ct := I (i + 1), bk := D.nx } ρ2 G2) D.ex) ∧ ∀ ρ G, I xs.length ρ G → D.nx ρ G
/-- what a for walks: a tuple, a range -/
abbrev ASrc := ASt → Gp → (List AV → (Gp → Prop) → Gp → Prop) → AX → Prop
def srTup (t : AT) : ASrc := fun ρ G R E => t ρ G (fun x G1 => onTup x fun xs => R xs (fun _ => True) G1) E
def srLst (t : AT) : ASrc := fun ρ G R E => t ρ G (fun x G1 => onRef x fun a => ∃ xs, G1 a = some (.lst xs) ∧ R xs (fun G => G a = some (.lst xs)) G1) E
def rangeA (lo : Int) (n : Nat) : List AV := (List.range n).map fun (i : Nat) => AV.int (lo + (i : Int))
def srRng1 (t : ATA) : ASrc := fun ρ G R E => t ρ G (fun xs G1 => onCons xs fun x r => onInt x fun j => r = [] ∧ -(2 ^ 62) ≤ j ∧ j < 2 ^ 62 ∧ R (rangeA 0 j.toNat) (fun _ => True) G1) E
def srRng2 (t : ATA) : ASrc := fun ρ G R E => t ρ G (fun xs G1 => onCons xs fun x r => onCons r fun y r => onInt x fun i => onInt y fun j => r = [] ∧ (-(2 ^ 62) ≤ i ∧ i < 2 ^ 62 ∧ -(2 ^ 62) ≤ j ∧ j < 2 ^ 62) ∧ R (rangeA i (j - i).toNat) (fun _ => True) G1) E
def aFor (sr : ASrc) (g : ATG) (tb : ATS) : ATS := fun D ρ G => sr ρ G (fun xs al G1 => loopI g tb xs al D ρ G1) (atX D.ex ρ)
theorem rangeA_get {lo : Int} {n i : Nat} {x : AV} (h : (rangeA lo n)[i]? = some x) : i < n ∧ x = .int (lo + (i : Int)) := by
  unfold rangeA at h
  rw [List.getElem?_map] at h
  by_cases hi : i < n
  · rw [List.getElem?_range hi] at h
    cases h
    exact ⟨hi, rfl⟩
  · rw [List.getElem?_eq_none (by rw [List.length_range]; omega)] at h
    cases h
theorem rangeA_at {lo : Int} {n i : Nat} (h : i < n) : (rangeA lo n)[i]? = some (.int (lo + (i : Int))) := by
  unfold rangeA
  rw [List.getElem?_map, List.getElem?_range h]
  rfl
theorem rangeA_len {lo : Int} {n : Nat} : (rangeA lo n).length = n := by unfold rangeA; rw [List.length_map, List.length_range]
section
variable {K : PySem.W.Frag} {W : WW} {g : ATG} {tb : ATS} {D0 : AEnds} {D : Ends}
/-- the invariant of the heap's loop -/
def PvI (K : PySem.W.Frag) (G : Gp) (H : Hp) (I : Nat → ASt → Gp → Prop) (i : Nat) (σ : St) (H' : Hp) : Prop := ∃ ρ' G', SimS K ρ' σ H' ∧ SimG K G' H' ∧ Ext G H G' H' ∧ I i ρ' G'
end
theorem loop_turn2 {K : PySem.W.Frag} {W : WW} {g : ATG} {tb : ATS} {D0 : AEnds} {D : Ends} {G : Gp} {H : Hp} {xs : List AV} {I : Nat → ASt → Gp → Prop} (hd : LEnds K W G H D0 D)
    (hst : ∀ i x ρ G, xs[i]? = some x → I i ρ G → g x ρ G (fun ρ2 G2 => tb { D0 with nx := I (i + 1), ct := I (i + 1), bk := D0.nx } ρ2 G2) D0.ex)
    {i : Nat} {x : AV} {v : V} {σ : St} {H' : Hp} (hx : xs[i]? = some x) (p : PvI K G H I i σ H') (r : Rep K H' x v) :
    lowG K W g v σ H' fun σ2 H2 => lowS K W tb { D with nx := PvI K G H I (i + 1), ct := PvI K G H I (i + 1), bk := D.nx } σ2 H2 := by
  obtain ⟨ρ', G', hs, hg, e, hI⟩ := p
  refine ⟨x, ρ', G', _, _, r, hs, hg, hst i x ρ' G' hx hI, ?_, hd.ex.up e⟩
  intro ρ2 G2 σ2 H2 h2 e2 g2 s2
  refine ⟨ρ2, G2, _, s2, g2, h2, ⟨?_, (hd.up (e.trans e2)).rt, ?_, ?_, (hd.up (e.trans e2)).ex⟩⟩
  · intro ρ3 G3 σ3 H3 h3 e3 g3 s3
    exact ⟨ρ3, G3, s3, g3, (e.trans e2).trans e3, h3⟩
  · exact (hd.up (e.trans e2)).nx
  · intro ρ3 G3 σ3 H3 h3 e3 g3 s3
    exact ⟨ρ3, G3, s3, g3, (e.trans e2).trans e3, h3⟩
section
variable {X : Cx} {W : WW} {tg iter : Expr} {body : List Stmt} {g : ATG} {tb : ATS} {pos : Pos}
theorem as_forT {t : AT} (hp : PassesOwn (model X.prog X.w) X.A X.env X.xe) (hc : X.calm = true) (hi : AE X W iter t) (hg : AG X W tg g) (hb : ASs X W body tb)
    (hs : ∀ x, foldedSetIterable iter X.env x = pure x := by intro _; rfl) : AS X W (.For tg iter body [] pos) (aFor (srTup t) g tb) :=
  psI (ps_for hp hc (pi_tup hi) hg hb hs) fun D σ H ⟨ρ, G, D0, hs, hg, h, hd⟩ => by
    refine ⟨ρ, G, _, _, hs, hg, h, ?_, hd.ex.at hs⟩
    intro x G1 v H1 h1 e1 g1 r1
    cases r1 with
    | tup ht hl =>
      rename_i a vs xs
      obtain ⟨I, h0, _, hst, hdn⟩ := h1
      refine ⟨a, rfl, ⟨vs, SqT.of ht⟩, for_tup (K := X.K) (a := a) (xs := vs) (PvI X.K G1 H1 I) ⟨ρ, G1, hs.up e1.toKept, g1, .refl, h0⟩ ?_ ?_ ?_⟩
      · rintro i σ H' _ ⟨_, _, _, _, e, _⟩
        exact SqT.of (e.tups _ _ ht)
      · intro i v σ H' hv p
        obtain ⟨x, hx, r⟩ : ∃ x, xs[i]? = some x ∧ Rep X.K H1 x v := by
          have hlt : i < xs.length := by rw [← hl.length]; exact (List.getElem?_eq_some_iff.mp hv).1
          obtain ⟨v', h1, h2⟩ := hl.get (i := i) (x := xs[i]) (by simp [hlt])
          rw [hv] at h1; cases h1
          exact ⟨_, by simp [hlt], h2⟩
        obtain ⟨ρ', G', hs', hg', e', hI⟩ := p
        exact loop_turn2 (hd.up e1) hst hx ⟨ρ', G', hs', hg', e', hI⟩ (r.up e'.toKept)
      · intro σ H' p
        obtain ⟨ρ', G', hs', hg', e', hI⟩ := p
        rw [hl.length] at hI
        exact (hd.up e1).nx _ _ _ _ (hdn _ _ hI) e' hg' hs'
    | _ => exact False.elim h1
theorem as_forL {t : AT} (hp : PassesOwn (model X.prog X.w) X.A X.env X.xe) (hc : X.calm = true) (hi : AE X W iter t) (hg : AG X W tg g) (hb : ASs X W body tb)
    (hs : ∀ x, foldedSetIterable iter X.env x = pure x := by intro _; rfl) : AS X W (.For tg iter body [] pos) (aFor (srLst t) g tb) :=
  psI (ps_for hp hc (pi_list hi) hg hb hs) fun D σ H ⟨ρ, G, D0, hs, hg, h, hd⟩ => by
    refine ⟨ρ, G, _, _, hs, hg, h, ?_, hd.ex.at hs⟩
    intro x G1 v H1 h1 e1 g1 r1
    cases r1 with
    | ref a =>
      obtain ⟨xs, hGa, h1⟩ := h1
      · skip
        obtain ⟨vs, hv, hl⟩ := g1 _ _ hGa
        obtain ⟨I, h0, hal, hst, hdn⟩ := h1
        refine ⟨a, rfl, ⟨vs, SqL.of hv⟩, fun i m σ H' => m = xs.length - i ∧ i ≤ xs.length ∧ PvI X.K G1 H1 I i σ H', ⟨_, rfl, Nat.zero_le _, ρ, G1, hs.up e1.toKept, g1, .refl, h0⟩, ?_⟩
        rintro i m σ H' ⟨rfl, hi, p⟩
        obtain ⟨ρ', G', hs', hg', e', hI⟩ := id p
        obtain ⟨vs', hv', hl'⟩ := hg' _ _ (hal _ _ _ hI)
        by_cases hlt : i < xs.length
        · obtain ⟨v, hvi, r⟩ := hl'.get (i := i) (x := xs[i]) (by simp [hlt])
          refine .inr ⟨⟨vs', v, SqL.of hv', hvi⟩, PvI X.K G1 H1 I (i + 1), fun σ' H2 p' => ⟨xs.length - (i + 1), by omega, rfl, hlt, p'⟩, fun y H2 ye => ?_⟩
          obtain ⟨rfl, ye⟩ := ye
          have hy := ye vs' (SqL.of hv')
          rw [hvi] at hy; cases hy
          exact loop_turn2 (hd.up e1) hst (by simp [hlt]) ⟨ρ', G', hs', hg', e', hI⟩ r
        · have ei : i = xs.length := by omega
          subst ei
          exact .inl ⟨⟨vs', SqL.of hv', by rw [hl'.length]; exact Nat.le_refl _⟩, (hd.up e1).nx _ _ _ _ (hdn _ _ hI) e' hg' hs'⟩
    | _ => exact False.elim h1
end
end Rw
namespace Rw
open PySem L2

section
variable {X : Cx} {W : WW} {tg iter : Expr} {body : List Stmt} {g : ATG} {tb : ATS} {pos : Pos}
theorem range_core {lo : Int} {n : Nat} {σ : St} {H1 : Hp} {G1 : Gp} {ρ : ASt} {D : Ends} {D0 : AEnds} (hs : SimS X.K ρ σ H1) (g1 : SimG X.K G1 H1) (hd : LEnds X.K W G1 H1 D0 D) (h1 : loopI g tb (rangeA lo n) (fun _ => True) D0 ρ G1) :
    ∃ W' : Nat → Nat → St → Hp → Prop, (∃ m, W' 0 m σ H1) ∧ ∀ i m σ H, W' i m σ H →
      ((Itr lo n).stop i H ∧ D.nx σ H) ∨ ((Itr lo n).go i H ∧ ∃ N : St → Hp → Prop, (∀ σ' H', N σ' H' → ∃ m', m' < m ∧ W' (i + 1) m' σ' H') ∧ ∀ x H', (Itr lo n).yld i H x H' → lowG X.K W g x σ H' fun σ2 H2 => lowS X.K W tb { D with nx := N, ct := N, bk := D.nx } σ2 H2) := by
  obtain ⟨I, h0, _, hst, hdn⟩ := h1
  refine for_range (PvI X.K G1 H1 I) ⟨ρ, G1, hs, g1, .refl, h0⟩ ?_ ?_
  · intro i σ H' hi p
    exact loop_turn2 hd hst (rangeA_at hi) p (.int _)
  · intro σ H' p
    obtain ⟨ρ', G', hs', g', e', hI⟩ := p
    rw [← rangeA_len (lo := lo) (n := n)] at hI
    exact hd.nx _ _ _ _ (hdn _ _ hI) e' g' hs'
theorem as_forR1 {a : Expr} {t : ATA} {p ps : Pos} (hm : X.mg "range" = none) (hp : PassesOwn (model X.prog X.w) X.A X.env X.xe) (hc : X.calm = true) (ha : AArgs X W [a] t) (hg : AG X W tg g) (hb : ASs X W body tb) (hgl : Gl X "range" := by rfl)
    (hs : starEach [a] X.env = [(false, eval a X.env)] := by rfl) : AS X W (.For tg (.Call (.Name "range" p) [a] [] ps) body [] pos) (aFor (srRng1 t) g tb) :=
  psI (ps_for hp hc (pi_range1 hgl hm ha hs) hg hb) fun D σ H ⟨ρ, G, D0, hs, hg, h, hd⟩ => by
    refine ⟨ρ, G, _, _, hs, hg, h, ?_, hd.ex.at hs⟩
    intro xs G1 vs H1 h1 e1 g1 r1
    cases r1 with
    | nil => exact h1.elim
    | cons r t =>
      cases r with
      | int j =>
        obtain ⟨rfl, q1, q2, h1⟩ := h1
        cases t
        exact ⟨j, rfl, q1, q2, range_core (hs.up e1.toKept) g1 (hd.up e1) h1⟩
      | _ => exact False.elim h1
theorem as_forR2 {a b : Expr} {t : ATA} {p ps : Pos} (hm : X.mg "range" = none) (hp : PassesOwn (model X.prog X.w) X.A X.env X.xe) (hc : X.calm = true) (ha : AArgs X W [a, b] t) (hg : AG X W tg g) (hb : ASs X W body tb) (hgl : Gl X "range" := by rfl)
    (hs : starEach [a, b] X.env = [(false, eval a X.env), (false, eval b X.env)] := by rfl) (hs2 : starEach [b] X.env = [(false, eval b X.env)] := by rfl) : AS X W (.For tg (.Call (.Name "range" p) [a, b] [] ps) body [] pos) (aFor (srRng2 t) g tb) :=
  psI (ps_for hp hc (pi_range2 hgl hm ha hs hs2) hg hb) fun D σ H ⟨ρ, G, D0, hs, hg, h, hd⟩ => by
    refine ⟨ρ, G, _, _, hs, hg, h, ?_, hd.ex.at hs⟩
    intro xs G1 vs H1 h1 e1 g1 r1
    cases r1 with
    | nil => exact h1.elim
    | cons r t =>
      cases t with
      | nil => exact h1.elim
      | cons r' t =>
        cases r with
        | int i =>
          cases r' with
          | int j =>
            obtain ⟨rfl, h1⟩ := h1
            cases t
            exact ⟨i, j, rfl, h1.1, range_core (hs.up e1.toKept) g1 (hd.up e1) h1.2⟩
          | _ => exact False.elim h1
        | _ => exact False.elim h1
/-- while: an invariant by a measure -/
def aWhile (c : ATT) (tb : ATS) : ATS := fun D ρ G => ∃ I : Nat → ASt → Gp → Prop, (∃ m, I m ρ G) ∧ ∀ m ρ G, I m ρ G →
  c ρ G (fun b G1 => if b = true then tb { D with nx := fun ρ' G' => ∃ m', m' < m ∧ I m' ρ' G', ct := fun ρ' G' => ∃ m', m' < m ∧ I m' ρ' G', bk := D.nx } ρ G1 else D.nx ρ G1) (atX D.ex ρ)
theorem as_while {c : Expr} {tc : ATT} (hp : PassesOwn (model X.prog X.w) X.A X.env X.xe) (hc : ATest X W c tc) (hb : ASs X W body tb) : AS X W (.While c body [] pos) (aWhile tc tb) :=
  psI (ps_while hp hc hb) fun D σ H ⟨ρ, G, D0, hs, hg, ⟨I, ⟨m0, h0⟩, h⟩, hd⟩ => by
    have again : ∀ {m : Nat} {ρ' : ASt} {G1 G' : Gp} {σ' : St} {H1 H' : Hp}, (∃ m', m' < m ∧ I m' ρ' G') → Ext G H G' H' → SimG X.K G' H' → SimS X.K ρ' σ' H' → ∃ m', m' < m ∧ ∃ ρ' G', SimS X.K ρ' σ' H' ∧ SimG X.K G' H' ∧ Ext G H G' H' ∧ I m' ρ' G' :=
      fun ⟨m', hm, hI⟩ e g s => ⟨m', hm, _, _, s, g, e, hI⟩
    refine ⟨fun m σ' H' => ∃ ρ' G', SimS X.K ρ' σ' H' ∧ SimG X.K G' H' ∧ Ext G H G' H' ∧ I m ρ' G', ⟨m0, ρ, G, hs, hg, .refl, h0⟩, ?_⟩
    rintro m σ' H' ⟨ρ', G', s', g', e', hI⟩
    refine ⟨ρ', G', _, _, s', g', h m ρ' G' hI, ?_, (hd.ex.up e').at s'⟩
    intro b G1 H1 h1 e1 g1
    cases b with
    | false => exact hd.nx _ _ _ _ h1 (e'.trans e1) g1 (s'.up e1.toKept)
    | true =>
      refine ⟨fun σ2 H2 => ∃ m', m' < m ∧ ∃ ρ' G', SimS X.K ρ' σ2 H2 ∧ SimG X.K G' H2 ∧ Ext G H G' H2 ∧ I m' ρ' G', fun σ2 H2 q => q, ρ', G1, _, s'.up e1.toKept, g1, h1, ⟨?_, (hd.up (e'.trans e1)).rt, ?_, ?_, (hd.up (e'.trans e1)).ex⟩⟩
      · intro ρ2 G2 σ2 H2 ⟨m', hm, h2⟩ e2 g2 s2
        exact ⟨m', hm, ρ2, G2, s2, g2, (e'.trans e1).trans e2, h2⟩
      · exact (hd.up (e'.trans e1)).nx
      · intro ρ2 G2 σ2 H2 ⟨m', hm, h2⟩ e2 g2 s2
        exact ⟨m', hm, ρ2, G2, s2, g2, (e'.trans e1).trans e2, h2⟩
end

/-! ### list comprehensions -/
def wipeA (ρ : ASt) : List Nat → ASt
  | [] => ρ
  | v :: vs => (wipeA ρ vs).set v none
theorem SimS.wipe {K : PySem.W.Frag} {ρ : ASt} {σ : St} {H : Hp} (s : SimS K ρ σ H) : ∀ vs : List Nat, SimS K (wipeA ρ vs) (wipe σ vs) H
  | [] => s
  | v :: vs => (SimS.wipe s vs).unset v
/-- what comes of a comprehension over xs: I by the turn and the list so far -/
def lcI (bind : AV → ASt → ASt → Prop) (tt : ATT) (te : AT) (xs : List AV) (al : Gp → Prop) (ρ : ASt) (G : Gp) (Q : AK) : Prop :=
  ∃ I : Nat → List AV → Gp → Prop, I 0 [] G ∧ (∀ i acc G, I i acc G → al G) ∧
    (∀ i x acc G, xs[i]? = some x → I i acc G → (∃ ρ2, bind x ρ ρ2) ∧ ∀ ρ2, bind x ρ ρ2 → tt ρ2 G (fun b G3 => if b = true then te ρ2 G3 (fun y G4 => acc.length < sizeLine ∧ I (i + 1) (acc ++ [y]) G4) (fun _ _ => False) else I (i + 1) acc G3) fun _ _ => False) ∧
    ∀ acc G, I xs.length acc G → ∀ p G', New G p (.lst acc) G' → Q (.ref p) G'
def bdName (i : Nat) (vs : List Nat) : AV → ASt → ASt → Prop := fun x ρ ρ2 => ρ2 = (wipeA ρ vs).set i (some x)
def aYes : ATT := fun _ G Q _ => Q true G
abbrev W0 : WW := fun _ _ _ => False
abbrev ATs (X : Cx) (W : WW) (ifs : List Expr) (t : ATT) : Prop := PTs X ifs (lowT X.K W t)
section
variable {X : Cx} {W : WW}
theorem ats_nil : ATs X W [] aYes := ⟨fun pins s σ H Q I ⟨ρ, G, Q0, E0, hs, hg, h, hq, he⟩ => pts_nil.run pins s σ H Q I (hq _ _ _ h .refl hg)⟩
theorem ats_one {c : Expr} {t : ATT} (h : ATest X W c t) : ATs X W [c] t := pts_one h
theorem tk_blk {X : Cx} {s : Shared} {H : Hp} {scope : Scope} {cenv : Env} {fp : List Addr} : Tk (X.blk s H scope cenv fp) W0 := fun _ _ x => by
  obtain ⟨_, _, _, _, _, _, _, _, _, _, _, _, _, _, _, _, z⟩ := x
  exact z.2.elim
end
def aLc (sr : ASrc) (bind : AV → ASt → ASt → Prop) (tt : ATT) (te : AT) : AT := fun ρ G Q E => sr ρ G (fun xs al G1 => lcI bind tt te xs al ρ G1 Q) E
section
variable {K : PySem.W.Frag}
/-- the invariant of the heap's comprehension -/
def PcI (K : PySem.W.Frag) (G : Gp) (H : Hp) (D : Addr) (I : Nat → List AV → Gp → Prop) (i : Nat) (H' : Hp) : Prop :=
  ∃ acc vs G', H' D = some (.lst vs) ∧ RepL K H' acc vs ∧ G' D = none ∧ SimG K G' H' ∧ Ext G H G' H' ∧ I i acc G'
theorem lc_turn {G : Gp} {H : Hp} {D : Addr} (hD0 : H D = none) {bind : AV → ASt → ASt → Prop} {tt : ATT} {te : AT} {xs : List AV} {ρ : ASt} {I : Nat → List AV → Gp → Prop} {W0' : WW}
    (hst : ∀ i x acc G, xs[i]? = some x → I i acc G → (∃ ρ2, bind x ρ ρ2) ∧ ∀ ρ2, bind x ρ ρ2 → tt ρ2 G (fun b G3 => if b = true then te ρ2 G3 (fun y G4 => acc.length < sizeLine ∧ I (i + 1) (acc ++ [y]) G4) (fun _ _ => False) else I (i + 1) acc G3) fun _ _ => False)
    {i : Nat} {x : AV} {H' : Hp} {ρ2 : ASt} {σ2 : St} (hx : xs[i]? = some x) (p : PcI K G H D I i H') (hb : bind x ρ ρ2) (s2 : SimS K ρ2 σ2 H') :
    lowT K W0' tt σ2 H' fun b H3 => if b = true then lowE K W0' te σ2 H3 fun y H4 => ∃ acc, H4 D = some (.lst acc) ∧ acc.length < sizeLine ∧ PcI K G H D I (i + 1) (upd H4 D (.lst (acc ++ [y]))) else PcI K G H D I (i + 1) H3 := by
  obtain ⟨acc, vs, G', hD, hr, hn, hg, e, hI⟩ := p
  refine ⟨ρ2, G', _, _, s2, hg, (hst i x acc G' hx hI).2 ρ2 hb, ?_, fun _ _ _ z => z.elim⟩
  intro b G3 H3 h3 e3 g3
  obtain ⟨hD3, hn3⟩ := e3.fr _ _ hD hn
  cases b with
  | false => exact ⟨acc, vs, G3, hD3, hr.up e3.toKept, hn3, g3, e.trans e3, h3⟩
  | true =>
    refine ⟨ρ2, G3, _, _, s2.up e3.toKept, g3, h3, ?_, fun _ _ _ z => z.elim⟩
    intro y G4 v H4 ⟨hl, h4⟩ e4 g4 r4
    obtain ⟨hD4, hn4⟩ := e4.fr _ _ hD3 hn3
    refine ⟨vs, hD4, by rw [hr.length]; exact hl, acc ++ [y], vs ++ [v], G4, upd_same, ?_, hn4, ?_, ?_, h4⟩
    · have k : Kept H4 (upd H4 D (.lst (vs ++ [v]))) := by
        refine ⟨fun b u h => ?_, fun b u w h => ?_, fun b q h => ?_⟩
        · rw [upd_ne (fun z => by rw [z, hD4] at h; cases h)]; exact h
        · rw [upd_ne (fun z => by rw [z, hD4] at h; cases h)]; exact h
        · rw [upd_ne (fun z => by rw [z, hD4] at h; cases h)]; exact h
      exact RepL.append (hr.up ((e3.trans e4).toKept.trans k)) (.cons (r4.up k) .nil)
    · intro a o h
      have hne : a ≠ D := fun z => by rw [z, hn4] at h; cases h
      have k : Kept H4 (upd H4 D (.lst (vs ++ [v]))) := by
        refine ⟨fun b u h => ?_, fun b u w h => ?_, fun b q h => ?_⟩
        · rw [upd_ne (fun z => by rw [z, hD4] at h; cases h)]; exact h
        · rw [upd_ne (fun z => by rw [z, hD4] at h; cases h)]; exact h
        · rw [upd_ne (fun z => by rw [z, hD4] at h; cases h)]; exact h
      exact (g4 a o h).up k (upd_ne hne)
    · have e5 := (e.trans e3).trans e4
      refine ⟨⟨fun b u h => ?_, fun b u w h => ?_, fun b q h => ?_⟩, fun b o h n => ?_⟩
      · have h' := e5.tups b u h
        rw [upd_ne (fun z => by rw [z, hD4] at h'; cases h')]; exact h'
      · have h' := e5.frzs b u w h
        rw [upd_ne (fun z => by rw [z, hD4] at h'; cases h')]; exact h'
      · have h' := e5.codes b q h
        rw [upd_ne (fun z => by rw [z, hD4] at h'; cases h')]; exact h'
      · have h' := e5.fr b o h n
        refine ⟨?_, h'.2⟩
        rw [upd_ne (fun z => by rw [z, hD0] at h; cases h)]; exact h'.1
end
/-- a target by its binding -/
def GB (K : PySem.W.Frag) (g : TG) (bind : AV → ASt → ASt → Prop) (vs : List Nat) : Prop :=
  ∀ x v ρ σ H Qd, Rep K H x v → SimS K ρ σ H → (∃ ρ2, bind x ρ ρ2) → (∀ ρ2 σ2, bind x ρ ρ2 → SimS K ρ2 σ2 H → wipe σ2 vs = wipe σ vs → Qd σ2 H) → g v (wipe σ vs) H Qd
theorem set_none_set {σ : St} {i : Nat} {v : Option V} : (((σ.set i none).set i v).set i none) = σ.set i none := by
  rw [List.set_set, List.set_set]
theorem gb_name {K : PySem.W.Frag} (i : Nat) : GB K (gName i) (bdName i [i]) [i] := fun x v ρ σ H Qd r s _ h =>
  h _ _ rfl ((s.wipe [i]).set i r) (by show ((σ.set i none).set i (some v)).set i none = σ.set i none; exact set_none_set)
def bdTup2 (i j : Nat) (vs : List Nat) : AV → ASt → ASt → Prop := fun x ρ ρ2 => ∃ a b, x = .tup [a, b] ∧ ρ2 = ((wipeA ρ vs).set i (some a)).set j (some b)
def bdTup4 (i j k l : Nat) (vs : List Nat) : AV → ASt → ASt → Prop := fun x ρ ρ2 => ∃ a b c d, x = .tup [a, b, c, d] ∧ ρ2 = ((((wipeA ρ vs).set i (some a)).set j (some b)).set k (some c)).set l (some d)
/-- slots outside vs stand, those in vs are wiped -/
theorem wipe_get : ∀ (vs : List Nat) (σ : St) (n : Nat), (wipe σ vs)[n]? = if n ∈ vs ∧ n < σ.length then some none else σ[n]?
  | [], σ, n => by rw [if_neg (by simp)]; rfl
  | v :: vs, σ, n => by
    show ((wipe σ vs).set v none)[n]? = _
    by_cases hv : v = n
    · subst hv
      by_cases hl : v < σ.length
      · rw [List.getElem?_set_self (by rw [wipe_length]; exact hl), if_pos ⟨List.mem_cons_self, hl⟩]
      · rw [if_neg (by intro z; exact hl z.2), List.getElem?_eq_none (by rw [List.length_set, wipe_length]; omega), List.getElem?_eq_none (by omega)]
    · rw [List.getElem?_set_ne hv, wipe_get vs σ n]
      by_cases hm : n ∈ vs ∧ n < σ.length
      · rw [if_pos hm, if_pos ⟨List.mem_cons_of_mem _ hm.1, hm.2⟩]
      · rw [if_neg hm, if_neg (by rintro ⟨h1, h2⟩; rcases List.mem_cons.mp h1 with e | e; exact hv e.symm; exact hm ⟨e, h2⟩)]
theorem wipe_ext {vs : List Nat} {σ σ2 : St} (hl : σ2.length = σ.length) (h : ∀ n, n ∉ vs → σ2[n]? = σ[n]?) : wipe σ2 vs = wipe σ vs := by
  refine List.ext_getElem? fun n => ?_
  rw [wipe_get, wipe_get, hl]
  by_cases hm : n ∈ vs
  · by_cases hlt : n < σ.length
    · rw [if_pos ⟨hm, hlt⟩, if_pos ⟨hm, hlt⟩]
    · rw [if_neg (fun z => hlt z.2), if_neg (fun z => hlt z.2), List.getElem?_eq_none (by omega), List.getElem?_eq_none (by omega)]
  · rw [if_neg (fun z => hm z.1), if_neg (fun z => hm z.1), h n hm]
theorem wipe_out' {vs : List Nat} {σ : St} {n : Nat} (h : n ∉ vs) : (wipe σ vs)[n]? = σ[n]? := by
  rw [wipe_get, if_neg (fun z => h z.1)]
theorem gb_tup2 {K : PySem.W.Frag} {i j : Nat} : GB K (gTup K 2 (gCons (gName i) (gCons (gName j) gNil))) (bdTup2 i j [i, j]) [i, j] := by
  rintro x v ρ σ H Qd r s ⟨_, a, b, rfl, _⟩ h
  cases r with
  | tup ht hl =>
    obtain ⟨v1, v2, rfl, r1, r2⟩ := hl.two
    refine ⟨_, _, rfl, SqT.of ht, rfl, v1, [v2], rfl, v2, [], rfl, rfl, ?_⟩
    refine h _ _ ⟨a, b, rfl, rfl⟩ (((s.wipe [i, j]).set i r1).set j r2) (wipe_ext (by simp [wipe_length]) fun n hn => ?_)
    rw [List.getElem?_set_ne (by rintro rfl; simp at hn), List.getElem?_set_ne (by rintro rfl; simp at hn), wipe_out' hn]
theorem RepL.four {K : PySem.W.Frag} {H : Hp} {a b c d : AV} {vs : List V} (h : RepL K H [a, b, c, d] vs) : ∃ v1 v2 v3 v4, vs = [v1, v2, v3, v4] ∧ Rep K H a v1 ∧ Rep K H b v2 ∧ Rep K H c v3 ∧ Rep K H d v4 := by
  cases h with
  | cons r1 t =>
    cases t with
    | cons r2 t =>
      obtain ⟨v3, v4, rfl, r3, r4⟩ := t.two
      exact ⟨_, _, _, _, rfl, r1, r2, r3, r4⟩
theorem gb_tup4 {K : PySem.W.Frag} {i j k l : Nat} : GB K (gTup K 4 (gCons (gName i) (gCons (gName j) (gCons (gName k) (gCons (gName l) gNil))))) (bdTup4 i j k l [i, j, k, l]) [i, j, k, l] := by
  rintro x v ρ σ H Qd r s ⟨_, a, b, c, d, rfl, _⟩ h
  cases r with
  | tup ht hl =>
    obtain ⟨v1, v2, v3, v4, rfl, r1, r2, r3, r4⟩ := hl.four
    refine ⟨_, _, rfl, SqT.of ht, rfl, v1, _, rfl, v2, _, rfl, v3, _, rfl, v4, _, rfl, rfl, ?_⟩
    refine h _ _ ⟨a, b, c, d, rfl, rfl⟩ (((((s.wipe [i, j, k, l]).set i r1).set j r2).set k r3).set l r4) (wipe_ext (by simp [wipe_length]) fun n hn => ?_)
    rw [List.getElem?_set_ne (by rintro rfl; simp at hn), List.getElem?_set_ne (by rintro rfl; simp at hn), List.getElem?_set_ne (by rintro rfl; simp at hn), List.getElem?_set_ne (by rintro rfl; simp at hn), wipe_out' hn]

section
variable {K : PySem.W.Frag}
/-- the start and the end of a comprehension, a turn in the middle -/
theorem lc_start {G1 : Gp} {H1 : Hp} {D : Addr} {I : Nat → List AV → Gp → Prop} (g1 : SimG K G1 H1) (hD : H1 D = none) (h0 : I 0 [] G1) : PcI K G1 H1 D I 0 (upd H1 D (.lst [])) :=
  ⟨[], [], G1, upd_same, .nil, g1.none hD, (ext_new g1 hD).2, (ext_new g1 hD).1, h0⟩
theorem lc_end {G1 : Gp} {H1 H' : Hp} {D : Addr} {I : Nat → List AV → Gp → Prop} {n : Nat} {Q0 : AK} {Q : VK} (hD0 : H1 D = none) (p : PcI K G1 H1 D I n H') (hd : ∀ acc G, I n acc G → ∀ p G', New G p (.lst acc) G' → Q0 (.ref p) G') (hq : LK K G1 H1 Q0 Q) : Q (.ref D) H' := by
  obtain ⟨acc, vs, G', hD, hr, hn, hg, e, hI⟩ := p
  refine hq _ _ _ _ (hd acc G' hI D _ ⟨rfl, hn⟩) ⟨e.toKept, fun b o h n => ⟨(e.fr b o h n).1, ?_⟩⟩ (fun a o h => ?_) (.ref D)
  · rw [gset_ne (fun z => by rw [z, hD0] at h; cases h)]
    exact (e.fr b o h n).2
  · by_cases hne : a = D
    · subst hne
      rw [gset_same] at h; cases h
      exact ⟨vs, hD, hr⟩
    · rw [gset_ne hne] at h
      exact hg a o h
end
section
variable {X : Cx} {W : WW} {elt tg iter : Expr} {ifs : List Expr} {scope : Scope} {own : List (Str × Nat)} {pos : Pos} {g : TG} {bind : AV → ASt → ASt → Prop} {tt : ATT} {te : AT}
theorem lc_step {vs : List Nat} {G1 : Gp} {H1 : Hp} {D : Addr} {xs : List AV} {ρ : ASt} {σ : St} {I : Nat → List AV → Gp → Prop} (hgb : GB X.K g bind vs) (hs : SimS X.K ρ σ H1) (hD : H1 D = none)
    (hst : ∀ i x acc G, xs[i]? = some x → I i acc G → (∃ ρ2, bind x ρ ρ2) ∧ ∀ ρ2, bind x ρ ρ2 → tt ρ2 G (fun b G3 => if b = true then te ρ2 G3 (fun y G4 => acc.length < sizeLine ∧ I (i + 1) (acc ++ [y]) G4) (fun _ _ => False) else I (i + 1) acc G3) fun _ _ => False)
    {i : Nat} {x : AV} {v : V} {H' : Hp} (hx : xs[i]? = some x) (p : PcI X.K G1 H1 D I i H') (r : Rep X.K H' x v) :
    g v (wipe σ vs) H' fun σ2 H2 => wipe σ2 vs = wipe σ vs ∧ lowT X.K W0 tt σ2 H2 fun b H3 =>
      if b = true then lowE X.K W0 te σ2 H3 fun y H4 => ∃ acc, H4 D = some (.lst acc) ∧ acc.length < sizeLine ∧ PcI X.K G1 H1 D I (i + 1) (upd H4 D (.lst (acc ++ [y]))) else PcI X.K G1 H1 D I (i + 1) H3 := by
  obtain ⟨acc, vs', G', hD', hr, hn, hg, e, hI⟩ := id p
  exact hgb x v ρ σ H' _ r (hs.up e.toKept) (hst i x acc G' hx hI).1 fun ρ2 σ2 hb s2 hw => ⟨hw, lc_turn hD hst hx p hb s2⟩
theorem lift_lcT {t : AT} {vs0 : List Nat} (hgb : GB X.K g bind vs0) {σ : St} {H : Hp} {Q : VK} : lowE X.K W (aLc (srTup t) bind tt te) σ H Q → tLc (iTup X.K (lowE X.K W t)) g (lowT X.K W0 tt) (lowE X.K W0 te) vs0 σ H Q := fun ⟨ρ, G, Q0, E0, hs, hg, h, hq, hE⟩ => by
    refine ⟨ρ, G, _, E0, hs, hg, h, ?_, hE⟩
    intro x G1 v H1 h1 e1 g1 r1
    cases r1 with
    | tup htp hl =>
      rename_i a vs xs
      obtain ⟨I, h0, _, hst, hdn⟩ := h1
      refine ⟨a, rfl, ⟨vs, SqT.of htp⟩, fun D hD => lc_tup (K := X.K) (a := a) (xs := vs) (PcI X.K G1 H1 D I) (lc_start g1 hD h0) ?_ ?_ ?_⟩
      · rintro i H' _ ⟨_, _, _, _, _, _, _, e, _⟩
        exact SqT.of (e.tups _ _ htp)
      · intro i v H' hv p
        obtain ⟨x, hx, r⟩ : ∃ x, xs[i]? = some x ∧ Rep X.K H1 x v := by
          have hlt : i < xs.length := by rw [← hl.length]; exact (List.getElem?_eq_some_iff.mp hv).1
          obtain ⟨v', h1, h2⟩ := hl.get (i := i) (x := xs[i]) (by simp [hlt])
          rw [hv] at h1; cases h1
          exact ⟨_, by simp [hlt], h2⟩
        have e := p.choose_spec.choose_spec.choose_spec.2.2.2.2.1
        exact lc_step (X := X) hgb (hs.up e1.toKept) hD hst hx p (r.up e.toKept)
      · intro H' p
        rw [hl.length] at p
        exact lc_end hD p hdn (hq.up e1)
    | _ => exact False.elim h1
theorem ae_lcT {t : AT} (hc : X.calm = true) (hN : X.N.Nodup) (hi : AE X W iter t) (ok : BlkOk X.N X.env.scope scope own) (hgb : GB X.K g bind (own.map (·.2)))
    (hg : ∀ (s : Shared) (H : Hp) (C : Addr) (cl : List (Str × Addr)) (fp : List Addr), PG (X.blk s H scope (compEnvC scope cl C X.env) fp) tg g) (ht : ∀ (s : Shared) (H : Hp) (C : Addr) (cl : List (Str × Addr)) (fp : List Addr), ATs (X.blk s H scope (compEnvC scope cl C X.env) fp) W0 ifs tt)
    (he : ∀ (s : Shared) (H : Hp) (C : Addr) (cl : List (Str × Addr)) (fp : List Addr), AE (X.blk s H scope (compEnvC scope cl C X.env) fp) W0 elt te) (hs : ∀ x, foldedSetIterable iter X.env x = pure x := by intro _; rfl) :
    AE X W (.ListComp elt [⟨tg, iter, ifs, 0⟩] scope pos) (aLc (srTup t) bind tt te) :=
  peI (pe_lc hc hN (pi_tup hi) ok hg ht he hs) fun _ _ _ => lift_lcT hgb
theorem as_lcT {t : AT} {i : Nat} {y : Str} {py spos : Pos} (hc : X.calm = true) (hN : X.N.Nodup) (hy : X.N[i]? = some y) (hyl : X.env.scope.names.lookup y = some .local)
    (hsw : swapsWith (.ListComp elt [⟨tg, iter, ifs, 0⟩] scope pos) (some (.Name y py)) spos.line X.env = pure true) (hi : AE X W iter t) (ok : BlkOk X.N X.env.scope scope own) (hgb : GB X.K g bind (own.map (·.2)))
    (hg : ∀ (s : Shared) (H : Hp) (C : Addr) (cl : List (Str × Addr)) (fp : List Addr), PG (X.blk s H scope (compEnvC scope cl C X.env) fp) tg g) (ht : ∀ (s : Shared) (H : Hp) (C : Addr) (cl : List (Str × Addr)) (fp : List Addr), ATs (X.blk s H scope (compEnvC scope cl C X.env) fp) W0 ifs tt)
    (he : ∀ (s : Shared) (H : Hp) (C : Addr) (cl : List (Str × Addr)) (fp : List Addr), AE (X.blk s H scope (compEnvC scope cl C X.env) fp) W0 elt te) (hs : ∀ x, foldedSetIterable iter X.env x = pure x := by intro _; rfl) :
    AS X W (.Assign [.Name y py] (.ListComp elt [⟨tg, iter, ifs, 0⟩] scope pos) spos) (aSet i (aLc (srTup t) bind tt te)) :=
  psI (ps_setLc hc hN hy hyl hsw (pi_tup hi) ok hg ht he hs) fun D σ H ⟨ρ, G, D0, hs, hg, h, hd⟩ => lift_lcT hgb ⟨ρ, G, _, _, hs, hg, h, fun x G' v H' h1 e1 g1 r1 => hd.nx _ _ _ _ h1 e1 g1 ((hs.up e1.toKept).set i r1), hd.ex.at hs⟩
theorem lc_range_core {lo : Int} {n : Nat} {σ : St} {H1 : Hp} {G1 : Gp} {ρ : ASt} {vs : List Nat} {Q0 : AK} {Q : VK} (hgb : GB X.K g bind vs) (hs : SimS X.K ρ σ H1) (g1 : SimG X.K G1 H1) (hq : LK X.K G1 H1 Q0 Q) (h1 : lcI bind tt te (rangeA lo n) (fun _ => True) ρ G1 Q0) :
    ∀ D, H1 D = none → ∃ W' : Nat → Nat → Hp → Prop, (∃ m, W' 0 m (upd H1 D (.lst []))) ∧ ∀ i m H, W' i m H →
      ((Itr lo n).stop i H ∧ Q (.ref D) H) ∨ ((Itr lo n).go i H ∧ ∃ Nx : Hp → Prop, (∀ H', Nx H' → ∃ m', m' < m ∧ W' (i + 1) m' H') ∧ ∀ x H', (Itr lo n).yld i H x H' → g x (wipe σ vs) H' fun σ2 H2 => wipe σ2 vs = wipe σ vs ∧ lowT X.K W0 tt σ2 H2 fun b H3 =>
        if b = true then lowE X.K W0 te σ2 H3 fun y H4 => ∃ acc, H4 D = some (.lst acc) ∧ acc.length < sizeLine ∧ Nx (upd H4 D (.lst (acc ++ [y]))) else Nx H3) := by
  intro D hD
  obtain ⟨I, h0, _, hst, hdn⟩ := h1
  refine lc_range (PcI X.K G1 H1 D I) (lc_start g1 hD h0) ?_ ?_
  · intro i H' hi p
    exact lc_step (X := X) hgb hs hD hst (rangeA_at hi) p (.int _)
  · intro H' p
    rw [← rangeA_len (lo := lo) (n := n)] at p
    exact lc_end hD p hdn hq
theorem lift_lcR1 {t : ATA} {vs0 : List Nat} (hgb : GB X.K g bind vs0) {σ : St} {H : Hp} {Q : VK} : lowE X.K W (aLc (srRng1 t) bind tt te) σ H Q → tLc (iRng1 (lowA X.K W t)) g (lowT X.K W0 tt) (lowE X.K W0 te) vs0 σ H Q := fun ⟨ρ, G, Q0, E0, hs, hg, h, hq, hE⟩ => by
    refine ⟨ρ, G, _, E0, hs, hg, h, ?_, hE⟩
    intro xs G1 vs H1 h1 e1 g1 r1
    cases r1 with
    | nil => exact h1.elim
    | cons r t =>
      cases r with
      | int j =>
        obtain ⟨rfl, q1, q2, h1⟩ := h1
        cases t
        exact ⟨j, rfl, q1, q2, lc_range_core hgb (hs.up e1.toKept) g1 (hq.up e1) h1⟩
      | _ => exact False.elim h1
theorem ae_lcR1 {a : Expr} {t : ATA} {p ps : Pos} (hm : X.mg "range" = none) (hc : X.calm = true) (hN : X.N.Nodup) (ha : AArgs X W [a] t) (ok : BlkOk X.N X.env.scope scope own) (hgb : GB X.K g bind (own.map (·.2)))
    (hg : ∀ (s : Shared) (H : Hp) (C : Addr) (cl : List (Str × Addr)) (fp : List Addr), PG (X.blk s H scope (compEnvC scope cl C X.env) fp) tg g) (ht : ∀ (s : Shared) (H : Hp) (C : Addr) (cl : List (Str × Addr)) (fp : List Addr), ATs (X.blk s H scope (compEnvC scope cl C X.env) fp) W0 ifs tt)
    (he : ∀ (s : Shared) (H : Hp) (C : Addr) (cl : List (Str × Addr)) (fp : List Addr), AE (X.blk s H scope (compEnvC scope cl C X.env) fp) W0 elt te) (hgl : Gl X "range" := by rfl)
    (hs : starEach [a] X.env = [(false, eval a X.env)] := by rfl) :
    AE X W (.ListComp elt [⟨tg, .Call (.Name "range" p) [a] [] ps, ifs, 0⟩] scope pos) (aLc (srRng1 t) bind tt te) :=
  peI (pe_lc hc hN (pi_range1 hgl hm ha hs) ok hg ht he) fun _ _ _ => lift_lcR1 hgb
theorem as_lcR1 {a : Expr} {t : ATA} {p ps : Pos} (hm : X.mg "range" = none) {i : Nat} {y : Str} {py spos : Pos} (hc : X.calm = true) (hN : X.N.Nodup) (hy : X.N[i]? = some y) (hyl : X.env.scope.names.lookup y = some .local)
    (hsw : swapsWith (.ListComp elt [⟨tg, .Call (.Name "range" p) [a] [] ps, ifs, 0⟩] scope pos) (some (.Name y py)) spos.line X.env = pure true) (ha : AArgs X W [a] t) (ok : BlkOk X.N X.env.scope scope own) (hgb : GB X.K g bind (own.map (·.2)))
    (hg : ∀ (s : Shared) (H : Hp) (C : Addr) (cl : List (Str × Addr)) (fp : List Addr), PG (X.blk s H scope (compEnvC scope cl C X.env) fp) tg g) (ht : ∀ (s : Shared) (H : Hp) (C : Addr) (cl : List (Str × Addr)) (fp : List Addr), ATs (X.blk s H scope (compEnvC scope cl C X.env) fp) W0 ifs tt)
    (he : ∀ (s : Shared) (H : Hp) (C : Addr) (cl : List (Str × Addr)) (fp : List Addr), AE (X.blk s H scope (compEnvC scope cl C X.env) fp) W0 elt te) (hgl : Gl X "range" := by rfl)
    (hs : starEach [a] X.env = [(false, eval a X.env)] := by rfl) :
    AS X W (.Assign [.Name y py] (.ListComp elt [⟨tg, .Call (.Name "range" p) [a] [] ps, ifs, 0⟩] scope pos) spos) (aSet i (aLc (srRng1 t) bind tt te)) :=
  psI (ps_setLc hc hN hy hyl hsw (pi_range1 hgl hm ha hs) ok hg ht he) fun D σ H ⟨ρ, G, D0, hs, hg, h, hd⟩ => lift_lcR1 hgb ⟨ρ, G, _, _, hs, hg, h, fun x G' v H' h1 e1 g1 r1 => hd.nx _ _ _ _ h1 e1 g1 ((hs.up e1.toKept).set i r1), hd.ex.at hs⟩
theorem lift_lcR2 {t : ATA} {vs0 : List Nat} (hgb : GB X.K g bind vs0) {σ : St} {H : Hp} {Q : VK} : lowE X.K W (aLc (srRng2 t) bind tt te) σ H Q → tLc (iRng2 (lowA X.K W t)) g (lowT X.K W0 tt) (lowE X.K W0 te) vs0 σ H Q := fun ⟨ρ, G, Q0, E0, hs, hg, h, hq, hE⟩ => by
    refine ⟨ρ, G, _, E0, hs, hg, h, ?_, hE⟩
    intro xs G1 vs H1 h1 e1 g1 r1
    cases r1 with
    | nil => exact h1.elim
    | cons r t =>
      cases t with
      | nil => exact h1.elim
      | cons r' t =>
        cases r with
        | int i =>
          cases r' with
          | int j =>
            obtain ⟨rfl, h1⟩ := h1
            cases t
            exact ⟨i, j, rfl, h1.1, lc_range_core hgb (hs.up e1.toKept) g1 (hq.up e1) h1.2⟩
          | _ => exact False.elim h1
        | _ => exact False.elim h1
theorem ae_lcR2 {a b : Expr} {t : ATA} {p ps : Pos} (hm : X.mg "range" = none) (hc : X.calm = true) (hN : X.N.Nodup) (ha : AArgs X W [a, b] t) (ok : BlkOk X.N X.env.scope scope own) (hgb : GB X.K g bind (own.map (·.2)))
    (hg : ∀ (s : Shared) (H : Hp) (C : Addr) (cl : List (Str × Addr)) (fp : List Addr), PG (X.blk s H scope (compEnvC scope cl C X.env) fp) tg g) (ht : ∀ (s : Shared) (H : Hp) (C : Addr) (cl : List (Str × Addr)) (fp : List Addr), ATs (X.blk s H scope (compEnvC scope cl C X.env) fp) W0 ifs tt)
    (he : ∀ (s : Shared) (H : Hp) (C : Addr) (cl : List (Str × Addr)) (fp : List Addr), AE (X.blk s H scope (compEnvC scope cl C X.env) fp) W0 elt te) (hgl : Gl X "range" := by rfl)
    (hs : starEach [a, b] X.env = [(false, eval a X.env), (false, eval b X.env)] := by rfl) (hs2 : starEach [b] X.env = [(false, eval b X.env)] := by rfl) :
    AE X W (.ListComp elt [⟨tg, .Call (.Name "range" p) [a, b] [] ps, ifs, 0⟩] scope pos) (aLc (srRng2 t) bind tt te) :=
  peI (pe_lc hc hN (pi_range2 hgl hm ha hs hs2) ok hg ht he) fun _ _ _ => lift_lcR2 hgb
theorem as_lcR2 {a b : Expr} {t : ATA} {p ps : Pos} (hm : X.mg "range" = none) {i : Nat} {y : Str} {py spos : Pos} (hc : X.calm = true) (hN : X.N.Nodup) (hy : X.N[i]? = some y) (hyl : X.env.scope.names.lookup y = some .local)
    (hsw : swapsWith (.ListComp elt [⟨tg, .Call (.Name "range" p) [a, b] [] ps, ifs, 0⟩] scope pos) (some (.Name y py)) spos.line X.env = pure true) (ha : AArgs X W [a, b] t) (ok : BlkOk X.N X.env.scope scope own) (hgb : GB X.K g bind (own.map (·.2)))
    (hg : ∀ (s : Shared) (H : Hp) (C : Addr) (cl : List (Str × Addr)) (fp : List Addr), PG (X.blk s H scope (compEnvC scope cl C X.env) fp) tg g) (ht : ∀ (s : Shared) (H : Hp) (C : Addr) (cl : List (Str × Addr)) (fp : List Addr), ATs (X.blk s H scope (compEnvC scope cl C X.env) fp) W0 ifs tt)
    (he : ∀ (s : Shared) (H : Hp) (C : Addr) (cl : List (Str × Addr)) (fp : List Addr), AE (X.blk s H scope (compEnvC scope cl C X.env) fp) W0 elt te) (hgl : Gl X "range" := by rfl)
    (hs : starEach [a, b] X.env = [(false, eval a X.env), (false, eval b X.env)] := by rfl) (hs2 : starEach [b] X.env = [(false, eval b X.env)] := by rfl) :
    AS X W (.Assign [.Name y py] (.ListComp elt [⟨tg, .Call (.Name "range" p) [a, b] [] ps, ifs, 0⟩] scope pos) spos) (aSet i (aLc (srRng2 t) bind tt te)) :=
  psI (ps_setLc hc hN hy hyl hsw (pi_range2 hgl hm ha hs hs2) ok hg ht he) fun D σ H ⟨ρ, G, D0, hs, hg, h, hd⟩ => lift_lcR2 hgb ⟨ρ, G, _, _, hs, hg, h, fun x G' v H' h1 e1 g1 r1 => hd.nx _ _ _ _ h1 e1 g1 ((hs.up e1.toKept).set i r1), hd.ex.at hs⟩
theorem lift_lcL {t : AT} {vs0 : List Nat} (hgb : GB X.K g bind vs0) {σ : St} {H : Hp} {Q : VK} : lowE X.K W (aLc (srLst t) bind tt te) σ H Q → tLc (iList X.K (lowE X.K W t)) g (lowT X.K W0 tt) (lowE X.K W0 te) vs0 σ H Q := fun ⟨ρ, G, Q0, E0, hs, hg, h, hq, hE⟩ => by
    refine ⟨ρ, G, _, E0, hs, hg, h, ?_, hE⟩
    intro x G1 v H1 h1 e1 g1 r1
    cases r1 with
    | ref a =>
      obtain ⟨xs, hGa, h1⟩ := h1
      · skip
        obtain ⟨vs, hv, hl⟩ := g1 _ _ hGa
        obtain ⟨I, h0, hal, hst, hdn⟩ := h1
        refine ⟨a, rfl, ⟨vs, SqL.of hv⟩, fun D hD => ⟨fun i m H' => m = xs.length - i ∧ i ≤ xs.length ∧ PcI X.K G1 H1 D I i H', ⟨_, rfl, Nat.zero_le _, lc_start g1 hD h0⟩, ?_⟩⟩
        rintro i m H' ⟨rfl, hi, p⟩
        obtain ⟨acc, ws, G', hD', hr, hn, hg', e', hI⟩ := id p
        obtain ⟨vs', hv', hl'⟩ := hg' _ _ (hal _ _ _ hI)
        by_cases hlt : i < xs.length
        · obtain ⟨v, hvi, r⟩ := hl'.get (i := i) (x := xs[i]) (by simp [hlt])
          refine .inr ⟨⟨vs', v, SqL.of hv', hvi⟩, PcI X.K G1 H1 D I (i + 1), fun H2 p' => ⟨xs.length - (i + 1), by omega, rfl, hlt, p'⟩, fun y H2 ye => ?_⟩
          obtain ⟨rfl, ye⟩ := ye
          have hy := ye vs' (SqL.of hv')
          rw [hvi] at hy; cases hy
          exact lc_step (X := X) hgb (hs.up e1.toKept) hD hst (by simp [hlt]) p r
        · have ei : i = xs.length := by omega
          subst ei
          exact .inl ⟨⟨vs', SqL.of hv', by rw [hl'.length]; exact Nat.le_refl _⟩, lc_end hD p hdn (hq.up e1)⟩
    | _ => exact False.elim h1
theorem ae_lcL {t : AT} (hc : X.calm = true) (hN : X.N.Nodup) (hi : AE X W iter t) (ok : BlkOk X.N X.env.scope scope own) (hgb : GB X.K g bind (own.map (·.2)))
    (hg : ∀ (s : Shared) (H : Hp) (C : Addr) (cl : List (Str × Addr)) (fp : List Addr), PG (X.blk s H scope (compEnvC scope cl C X.env) fp) tg g) (ht : ∀ (s : Shared) (H : Hp) (C : Addr) (cl : List (Str × Addr)) (fp : List Addr), ATs (X.blk s H scope (compEnvC scope cl C X.env) fp) W0 ifs tt)
    (he : ∀ (s : Shared) (H : Hp) (C : Addr) (cl : List (Str × Addr)) (fp : List Addr), AE (X.blk s H scope (compEnvC scope cl C X.env) fp) W0 elt te) (hs : ∀ x, foldedSetIterable iter X.env x = pure x := by intro _; rfl) :
    AE X W (.ListComp elt [⟨tg, iter, ifs, 0⟩] scope pos) (aLc (srLst t) bind tt te) :=
  peI (pe_lc hc hN (pi_list hi) ok hg ht he hs) fun _ _ _ => lift_lcL hgb
theorem as_lcL {t : AT} {i : Nat} {y : Str} {py spos : Pos} (hc : X.calm = true) (hN : X.N.Nodup) (hy : X.N[i]? = some y) (hyl : X.env.scope.names.lookup y = some .local)
    (hsw : swapsWith (.ListComp elt [⟨tg, iter, ifs, 0⟩] scope pos) (some (.Name y py)) spos.line X.env = pure true) (hi : AE X W iter t) (ok : BlkOk X.N X.env.scope scope own) (hgb : GB X.K g bind (own.map (·.2)))
    (hg : ∀ (s : Shared) (H : Hp) (C : Addr) (cl : List (Str × Addr)) (fp : List Addr), PG (X.blk s H scope (compEnvC scope cl C X.env) fp) tg g) (ht : ∀ (s : Shared) (H : Hp) (C : Addr) (cl : List (Str × Addr)) (fp : List Addr), ATs (X.blk s H scope (compEnvC scope cl C X.env) fp) W0 ifs tt)
    (he : ∀ (s : Shared) (H : Hp) (C : Addr) (cl : List (Str × Addr)) (fp : List Addr), AE (X.blk s H scope (compEnvC scope cl C X.env) fp) W0 elt te) (hs : ∀ x, foldedSetIterable iter X.env x = pure x := by intro _; rfl) :
    AS X W (.Assign [.Name y py] (.ListComp elt [⟨tg, iter, ifs, 0⟩] scope pos) spos) (aSet i (aLc (srLst t) bind tt te)) :=
  psI (ps_setLc hc hN hy hyl hsw (pi_list hi) ok hg ht he hs) fun D σ H ⟨ρ, G, D0, hs, hg, h, hd⟩ => lift_lcL hgb ⟨ρ, G, _, _, hs, hg, h, fun x G' v H' h1 e1 g1 r1 => hd.nx _ _ _ _ h1 e1 g1 ((hs.up e1.toKept).set i r1), hd.ex.at hs⟩
end
end Rw
namespace Rw
open PySem L2

/-! ### a def's promise, its call -/
def lowF (K : PySem.W.Frag) (asp : ASp) : Sp := fun vs H Q E => ∃ xs G Q0 E0, RepL K H xs vs ∧ SimG K G H ∧ asp xs G Q0 E0 ∧ LK K G H Q0 Q ∧ LX K (fun c _ H' => E c none H') [] G H E0
/-- forgetting told things -/
def GSub (G' G : Gp) : Prop := ∀ a o, G' a = some o → G a = some o
theorem GSub.refl {G : Gp} : GSub G G := fun _ _ h => h
def dropQ (Q : AK) : AK := fun x G => ∃ G', GSub G' G ∧ Q x G'
def dropE (E : AX) : AX := fun c G => ∃ G', GSub G' G ∧ E c G'
theorem SimG.sub {K : PySem.W.Frag} {G G' : Gp} {H : Hp} (g : SimG K G H) (h : GSub G' G) : SimG K G' H := fun a o e => g a o (h a o e)
theorem Ext.sub {G G1 G2 : Gp} {H H1 : Hp} (e : Ext G H G1 H1) (h : GSub G2 G1) : Ext G H G2 H1 :=
  ⟨e.toKept, fun b o hb n => ⟨(e.fr b o hb n).1, by
    cases q : G2 b with
    | none => rfl
    | some o' => have := h b o' q; rw [(e.fr b o hb n).2] at this; cases this⟩⟩
theorem LK.drop {K : PySem.W.Frag} {G : Gp} {H : Hp} {Q0 : AK} {Q : VK} (l : LK K G H Q0 Q) : LK K G H (dropQ Q0) Q := fun x G' v H' ⟨G2, hs, h⟩ e g r => l x G2 v H' h (e.sub hs) (g.sub hs) r
theorem LX.drop {K : PySem.W.Frag} {W : WW} {σ : L2.St} {G : Gp} {H : Hp} {E0 : AX} (l : LX K W σ G H E0) : LX K W σ G H (dropE E0) := fun c G' H' ⟨G2, hs, h⟩ e g => l c G2 H' h (e.sub hs) (g.sub hs)

/-- the context of a def's body -/
abbrev bX (P : Program) (w : World) (K : PySem.W.Frag) (mg : Str → Option Value) (base : Heap) (N : List Str) (qual : Str) (st : Stmt) (f : Addr) (cdv : Value) (A : Around) (outer : List Env) (s : Shared) (H : Hp) (E : XK) : Cx :=
  cxOf (CX P w) P w K mg base N qual (defScope st) f cdv A outer s H E
def startA (N : List Str) (xs : List AV) : ASt := xs.map some ++ List.replicate (N.length - xs.length) none
/-- where a def stands -/
structure DefAt (K : PySem.W.Frag) (mg : Str → Option Value) (x : Str) (st : Stmt) (ps : List Str) : Prop where
  ex : ∃ (f : Addr) (fd : FuncData), Fun K x x st f fd ∧ mg x = some (.ref f) ∧ Binds K fd ps [] ∧ fd.params.args.map (·.arg) = ps
structure DefOk (P : Program) (w : World) (K : PySem.W.Frag) (mg : Str → Option Value) (base : Heap) (k : Nat) (x : Str) (asp : ASp) : Prop where
  ex : ∃ (f : Addr) (fd : FuncData) (ps : List Str), FnOk P w K mg base (CX P w) k f fd ps (lowF K asp) ∧ mg x = some (.ref f) ∧ PySem.W.keepIn K (.ref f) = true ∧ Binds K fd ps [] ∧ ∃ (oc : Value) (od : Option Addr) (osl : Array (Option Value)), K.lookup f = some ⟨oc, od, .func fd, osl⟩ ∧ fd.params.args.map (·.arg) = ps
section
variable {P : Program} {w : World} {K : PySem.W.Frag} {mg : Str → Option Value} {base : Heap}
theorem DefOk.mono {j k : Nat} {x : Str} {asp : ASp} (D : DefOk P w K mg base j x asp) (h : j ≤ k) : DefOk P w K mg base k x asp :=
  let ⟨f, fd, ps, F, r⟩ := D.ex; ⟨f, fd, ps, F.mono h, r⟩
theorem DefOk.imp {k : Nat} {x : Str} {asp asp' : ASp} (D : DefOk P w K mg base k x asp) (h : ∀ xs G Q E, asp' xs G Q E → asp xs G Q E) : DefOk P w K mg base k x asp' :=
  let ⟨f, fd, ps, F, r⟩ := D.ex; ⟨f, fd, ps, F.imp fun vs H Q E ⟨xs, G, Q0, E0, h1, h2, h3, h4⟩ => ⟨xs, G, Q0, E0, h1, h2, h _ _ _ _ h3, h4⟩, r⟩
theorem startA_sim {H : Hp} {xs : List AV} {vs : List V} {N : List Str} (r : RepL K H xs vs) (hl : vs.length ≤ N.length) : SimS K (startA N xs) (L2.start N vs) H := by
  have e := r.length
  refine ⟨by unfold startA L2.start; simp only [List.length_append, List.length_map, List.length_replicate]; omega, fun i x h => ?_⟩
  unfold startA at h
  unfold L2.start
  by_cases hi : i < xs.length
  · rw [List.getElem?_append_left (by simpa using hi), List.getElem?_map] at h
    rw [List.getElem?_append_left (by simpa [e] using hi), List.getElem?_map]
    cases q : xs[i]? with
    | none => rw [q] at h; cases h
    | some y =>
      rw [q] at h
      cases h
      obtain ⟨v, hv, rv⟩ := r.get q
      exact ⟨v, by rw [hv]; rfl, rv⟩
  · rw [List.getElem?_append_right (by simpa using hi), List.getElem?_replicate] at h
    split at h <;> cases h
/-- THE RULE for a def -/
theorem fn_okA {x qual : Str} {st : Stmt} {f : Addr} {fd : FuncData} {N ps : List Str} {k : Nat} {asp : ASp} (F : Fun K x qual st f fd) (S : FnScope N ps (defScope st)) (len : ∀ xs G Q E, asp xs G Q E → xs.length = ps.length)
    (hbody : ∀ (f : Addr) (cdv : Value) (A : Around) (outer : List Env) (s : Shared) (H : Hp) (E : XK) (W : WW), Tk (bX P w K mg base N qual st f cdv A outer s H E) W →
      PassesOwn (model P w) (bX P w K mg base N qual st f cdv A outer s H E).A (bX P w K mg base N qual st f cdv A outer s H E).env (bX P w K mg base N qual st f cdv A outer s H E).xe →
      Room k (bX P w K mg base N qual st f cdv A outer s H E).A → ∀ xs G Q0 E0, asp xs G Q0 E0 →
      ∃ t, ASs (bX P w K mg base N qual st f cdv A outer s H E) W (defBody st) t ∧ t { nx := fun _ G' => dropQ Q0 .non G', rt := dropQ Q0, ex := fun c _ G' => dropE E0 c G' } (startA N xs) G) :
    FnOk P w K mg base (CX P w) (k + 1) f fd ps (lowF K asp) := by
  refine F.okX S (fun vs H Q E ⟨xs, G, Q0, E0, r, hg, h, _⟩ => by rw [r.length]; exact len _ _ _ _ h) fun cdv A outer s H vs Q E hr ⟨xs, G, Q0, E0, r, hg, h, hq, he⟩ => ?_
  have tk : Tk (bX P w K mg base N qual st f cdv A outer s H E) (fun c _ H' => E c none H') :=
    (takes_of rfl rfl rfl rfl : Takes (bX P w K mg base N qual st f cdv A outer s H E) (fun cls d _ H => E cls d H)).imp fun c d σ H' ⟨z, h⟩ => by subst z; exact h
  obtain ⟨t, ht, q⟩ := hbody f cdv A outer s H E (fun c _ H' => E c none H') tk (passes_of rfl) hr xs G Q0 E0 h
  have hl : vs.length ≤ N.length := by
    have h1 := len _ _ _ _ h
    have h2 := congrArg List.length S.pre
    rw [List.length_take] at h2
    rw [r.length, h1]
    omega
  refine ⟨_, ht, startA N xs, G, _, startA_sim r hl, hg, q, ⟨?_, hq.drop, ?_, ?_, fun c ρ' G' σ' H' h e g _ => he.drop c G' H' h e g⟩⟩
  · intro ρ' G' σ' H' h1 e1 g1 s1
    exact hq.drop _ _ _ _ h1 e1 g1 .non
  · intro _ _ _ _ z; exact z.elim
  · intro _ _ _ _ z; exact z.elim
theorem DefAt.ok {x : Str} {st : Stmt} {N ps : List Str} {k : Nat} {asp : ASp} (T : DefAt K mg x st ps) (S : FnScope N ps (defScope st)) (len : ∀ xs G Q E, asp xs G Q E → xs.length = ps.length)
    (hbody : ∀ (f : Addr) (cdv : Value) (A : Around) (outer : List Env) (s : Shared) (H : Hp) (E : XK) (W : WW), Tk (bX P w K mg base N x st f cdv A outer s H E) W →
      PassesOwn (model P w) (bX P w K mg base N x st f cdv A outer s H E).A (bX P w K mg base N x st f cdv A outer s H E).env (bX P w K mg base N x st f cdv A outer s H E).xe →
      Room k (bX P w K mg base N x st f cdv A outer s H E).A → ∀ xs G Q0 E0, asp xs G Q0 E0 →
      ∃ t, ASs (bX P w K mg base N x st f cdv A outer s H E) W (defBody st) t ∧ t { nx := fun _ G' => dropQ Q0 .non G', rt := dropQ Q0, ex := fun c _ G' => dropE E0 c G' } (startA N xs) G) :
    DefOk P w K mg base (k + 1) x asp := by
  obtain ⟨f, fd, F, hm, hb, he⟩ := T.ex
  obtain ⟨oc, od, kV, doc, pm, an, cdv, ct, osl, e, lk, hcd⟩ := F.ex
  exact ⟨f, fd, ps, fn_okA F S len hbody, hm, F.kp, hb, oc, od, osl, by subst e; exact lk, he⟩
end
def aCall (asp : ASp) (t : ATA) : AT := fun ρ G Q E => t ρ G (fun xs G1 => asp xs G1 Q E) E
section
variable {X : Cx} {W : WW} {k : Nat} {x : Str} {asp : ASp} {p pos : Pos} {e : Expr} {es : List Expr} {t : ATA}
theorem lift_call {K : PySem.W.Frag} {σ : St} {H : Hp} {Q : VK} : lowE K W (aCall asp t) σ H Q → tCallS (lowF K asp) (fun σ c d H => d = none ∧ W c σ H) (lowA K W t) σ H Q := by
  rintro ⟨ρ, G, Q0, E0, hs, hg, h, hq, he⟩
  refine ⟨ρ, G, _, E0, hs, hg, h, ?_, he⟩
  intro xs G1 vs H1 h1 e1 g1 r1
  exact ⟨xs, G1, Q0, E0, r1, g1, h1, hq.up e1, fun c G' H' hc e2 g2 => ⟨rfl, he c G' H' hc (e1.trans e2) g2⟩⟩
theorem ae_call (D : DefOk X.prog X.w X.K X.mg X.base k x asp) (hr : Room k X.A) (tk : Tk X W) (ha : AArgs X W (e :: es) t) (hg : Gl X x := by rfl)
    (hdb : (x == ("__debug__" : Str)) = false := by decide) (he : starEach (e :: es) X.env = (false, eval e X.env) :: starEach es X.env := by rfl) (hpl : (backTo pos (starEach es X.env)).any (·.1) = false := by rfl) :
    AE X W (.Call (.Name x p) (e :: es) [] pos) (aCall asp t) := by
  obtain ⟨f, fd, ps, F, hm, hk, hb, _⟩ := D.ex
  exact peI (pe_callS F hr hg hm hk hb (fun σ => passAt tk σ) ha hdb he hpl) fun _ _ _ => lift_call
end

/-! ### by values -/
theorem atI_map {α β : Type} (f : α → β) (xs : List α) (i : Int) : atI (xs.map f) i = (atI xs i).map f := by
  unfold atI
  rw [List.length_map]
  cases ixN xs.length i with
  | none => rfl
  | some j => simp
theorem RepL.atI {K : PySem.W.Frag} {H : Hp} {xs : List AV} {vs : List V} {i : Int} {x : AV} (r : RepL K H xs vs) (h : atI xs i = some x) : ∃ v, L2.atI vs i = some v ∧ Rep K H x v := by
  unfold L2.atI at h ⊢
  rw [r.length]
  cases q : ixN xs.length i with
  | none => rw [q] at h; cases h
  | some j =>
    rw [q] at h
    exact r.get h
section
variable {K : PySem.W.Frag}
/-- x[i] -/
def fIx : AF2 := fun x y G Q => match x, y with
  | .tup xs, .int i => ∃ v, atI xs i = some v ∧ Q v G
  | .ro ns, .int i => ∃ n, atI ns i = some n ∧ Q (.int n) G
  | .ref a, .int i => ∃ xs, G a = some (.lst xs) ∧ ∃ v, atI xs i = some v ∧ Q v G
  | .str z, .int i => z.length ≤ sizeLine ∧ ∃ c, atI z.cps.toList i = some c ∧ Q (.str ⟨#[c]⟩) G
  | _, _ => False
theorem lf_ix : Lift2 K (rIx K) fIx := by
  intro x y v w G H Q0 Q rx ry hg h hq
  cases rx with
  | tup ht hl =>
    cases ry with
    | int i =>
      obtain ⟨v, e, h⟩ := h
      obtain ⟨u, hu, ru⟩ := hl.atI e
      exact .inr (.inl ⟨_, _, i, u, rfl, rfl, SqT.of ht, hu, hq _ _ _ _ h .refl hg ru⟩)
    | _ => exact h.elim
  | ro hr =>
    cases ry with
    | int i =>
      obtain ⟨n, e, h⟩ := h
      exact .inl ⟨_, _, i, .int n, rfl, rfl, hr.sq, by rw [atI_map, e]; rfl, hq _ _ _ _ h .refl hg (.int n)⟩
    | _ => exact h.elim
  | ref a =>
    cases ry with
    | int i =>
      obtain ⟨xs, e, v, e2, h⟩ := h
      obtain ⟨vs, hv, hl⟩ := hg _ _ e
      obtain ⟨u, hu, ru⟩ := hl.atI e2
      exact .inl ⟨_, _, i, u, rfl, rfl, SqL.of hv, hu, hq _ _ _ _ h .refl hg ru⟩
    | _ => exact h.elim
  | str z =>
    cases ry with
    | int i =>
      obtain ⟨hz, c, e, h⟩ := h
      exact .inr (.inr ⟨z, i, c, rfl, rfl, hz, e, hq _ _ _ _ h .refl hg (.str _)⟩)
    | _ => exact h.elim
  | _ => exact h.elim
theorem ae_ix {X : Cx} {W : WW} {a b : Expr} {ta tb : AT} {pos : Pos} (ha : AE X W a ta) (hb : AE X W b tb) (hs : PlainIx b := by exact fun _ _ => rfl) : AE X W (.Subscript a b pos) (aOp2 fIx ta tb) :=
  peI (pe_ix ix_seq ha hb hs) fun _ _ _ => lift_op2 lf_ix
/-- slices -/
def cutA {α : Type} (xs : List α) (lo hi : Option Int) : List α := (xs.drop (HT.sIx xs.length 0 lo)).take (HT.sIx xs.length xs.length hi - HT.sIx xs.length 0 lo)
theorem RepL.cut {H : Hp} {xs : List AV} {vs : List V} (r : RepL K H xs vs) (lo hi : Option Int) : RepL K H (cutA xs lo hi) (cutV vs lo hi) := by
  unfold cutA cutV
  rw [r.length]
  exact (r.drop _).take _
theorem cutA_whole {α : Type} {xs : List α} {lo hi : Option Int} (h : HT.sIx xs.length 0 lo = 0 ∧ HT.sIx xs.length xs.length hi = xs.length) : cutA xs lo hi = xs := by
  unfold cutA
  rw [h.1, h.2]
  simp
def fSl : AV → Option Int → Option Int → Gp → AK → Prop := fun x lo hi G Q => match x with
  | .tup xs => Q (.tup (cutA xs lo hi)) G
  | .ref a => ∃ xs, G a = some (.lst xs) ∧ ∀ p G', New G p (.lst (cutA xs lo hi)) G' → Q (.ref p) G'
  | .str z => z.length ≤ sizeLine ∧ Q (.str (cutS z lo hi)) G
  | _ => False
abbrev AO := ASt → Gp → (Option Int → Gp → Prop) → AX → Prop
def aoNo : AO := fun _ G Q _ => Q none G
def aoSome (t : AT) : AO := fun ρ G Q E => t ρ G (fun x G1 => onInt x fun i => Q (some i) G1) E
def lowO (K : PySem.W.Frag) (W : WW) (t : AO) : TO := fun σ H Q => ∃ ρ G Q0 E0, SimS K ρ σ H ∧ SimG K G H ∧ t ρ G Q0 E0 ∧ (∀ b G' H', Q0 b G' → Ext G H G' H' → SimG K G' H' → Q b H') ∧ LX K W σ G H E0
abbrev APart (X : Cx) (W : WW) (e : Option Expr) (t : AO) : Prop := PO X e (lowO X.K W t)
theorem ap_none {X : Cx} {W : WW} : APart X W none aoNo := ⟨fun pins s σ H Q I ⟨ρ, G, Q0, E0, hs, hg, h, hq, he⟩ => po_none.run pins s σ H Q I (hq _ _ _ h .refl hg)⟩
theorem ap_some {X : Cx} {W : WW} {e : Expr} {t : AT} (h : AE X W e t) : APart X W (some e) (aoSome t) := ⟨fun pins s σ H Q I ⟨ρ, G, Q0, E0, hs, hg, h2, hq, he⟩ => (po_some h).run pins s σ H Q I (by
  refine ⟨ρ, G, _, E0, hs, hg, h2, ?_, he⟩
  intro x G1 v H1 h1 e1 g1 r1
  cases r1 with
  | int i => exact ⟨i, rfl, hq _ _ _ h1 e1 g1⟩
  | _ => exact False.elim h1)⟩
def aSlice (t : AT) (tl th : AO) : AT := fun ρ G Q E => t ρ G (fun x G1 => tl ρ G1 (fun lo G2 => th ρ G2 (fun hi G3 => fSl x lo hi G3 Q) E) E) E
theorem sl_all {X : Cx} : SlR X (fun x lo hi H Q => rSlA X.K x lo hi H Q ∨ (rSlL X.K x lo hi H Q ∨ rSlS x lo hi H Q)) := sl_tupA.or (sl_list.or sl_str)
theorem ae_slice {X : Cx} {W : WW} {e : Expr} {lo hi : Option Expr} {t : AT} {tl th : AO} {p2 pos : Pos} (he : AE X W e t) (hl : APart X W lo tl) (hu : APart X W hi th) : AE X W (.Subscript e (.Slice lo hi none p2) pos) (aSlice t tl th) :=
  peI (pe_slice sl_all he hl hu) fun σ H Q ⟨ρ, G, Q0, E0, hs, hg, h, hq, hE⟩ => by
    refine ⟨ρ, G, _, E0, hs, hg, h, ?_, hE⟩
    intro x G1 v H1 h1 e1 g1 r1
    refine ⟨ρ, G1, _, E0, hs.up e1.toKept, g1, h1, ?_, hE.up e1⟩
    intro lo G2 H2 h2 e2 g2
    refine ⟨ρ, G2, _, E0, hs.up (e1.trans e2).toKept, g2, h2, ?_, hE.up (e1.trans e2)⟩
    intro hi G3 H3 h3 e3 g3
    have eq := (e1.trans e2).trans e3
    have r3 := r1.up (e2.trans e3).toKept
    cases r3 with
    | tup ht hl =>
      refine .inl ⟨_, _, rfl, SqT.of ht, fun hw => ?_, fun hw p hp => ?_⟩
      · rw [hl.length] at hw
        have h3 : Q0 (.tup (cutA _ lo hi)) G3 := h3
        rw [cutA_whole hw] at h3
        exact hq _ _ _ _ h3 eq g3 (.tup ht hl)
      · exact new_tup g3 (hl.cut lo hi) h3 (hq.up eq) hp
    | ref a =>
      obtain ⟨xs, e, h3⟩ := h3
      obtain ⟨vs, hv, hl⟩ := g3 _ _ e
      exact .inr (.inl ⟨_, _, rfl, SqL.of hv, fun p hp => new_lst g3 (hl.cut lo hi) h3 (hq.up eq) hp⟩)
    | str z => exact .inr (.inr ⟨z, rfl, h3.1, hq _ _ _ _ h3.2 eq g3 (.str _)⟩)
    | _ => exact False.elim h3

/-! ints -/
def fI (g : Int → Int → AV) : AF2 := fun x y G Q => match x, y with | .int i, .int j => Q (g i j) G | _, _ => False
def fIC (C : Int → Int → Prop) (g : Int → Int → AV) : AF2 := fun x y G Q => match x, y with | .int i, .int j => C i j ∧ Q (g i j) G | _, _ => False
theorem lf_i {g : Int → Int → AV} {g' : Int → Int → V} (hg' : ∀ i j H, Rep K H (g i j) (g' i j)) : Lift2 K (rI0 g') (fI g) := by
  intro x y v w G H Q0 Q rx ry hg h hq
  cases rx with
  | int i =>
    cases ry with
    | int j => exact ⟨i, j, rfl, rfl, hq _ _ _ _ h .refl hg (hg' i j H)⟩
    | _ => exact h.elim
  | _ => exact h.elim
theorem lf_ic {C : Int → Int → Prop} {g : Int → Int → AV} {g' : Int → Int → V} (hg' : ∀ i j H, Rep K H (g i j) (g' i j)) : Lift2 K (rI C g') (fIC C g) := by
  intro x y v w G H Q0 Q rx ry hg h hq
  cases rx with
  | int i =>
    cases ry with
    | int j => exact ⟨i, j, rfl, rfl, h.1, hq _ _ _ _ h.2 .refl hg (hg' i j H)⟩
    | _ => exact h.elim
  | _ => exact h.elim
abbrev fSub : AF2 := fI fun i j => .int (i - j)
abbrev fLt : AF2 := fI fun i j => .bl (decide (i < j))
abbrev fLe : AF2 := fI fun i j => .bl (decide (i ≤ j))
abbrev fGt : AF2 := fI fun i j => .bl (decide (j < i))
abbrev fGe : AF2 := fI fun i j => .bl (decide (j ≤ i))
abbrev fMod : AF2 := fIC (fun _ j => 0 < j) fun i j => .int (i % j)
abbrev fMul : AF2 := fIC CMul fun i j => .int (i * j)
abbrev fDiv : AF2 := fIC CDiv fun i j => .int (i / j)
abbrev fPow : AF2 := fIC CPow fun i j => .int (i ^ j.toNat)
/-- a + b -/
def fAdd : AF2 := fun x y G Q => match x, y with
  | .int i, .int j => Q (.int (i + j)) G
  | .str a, .str b => a.length + b.length ≤ sizeLine ∧ Q (.str (a ++ b)) G
  | .tup xs, .tup ys => xs.length + ys.length ≤ sizeLine ∧ Q (.tup (xs ++ ys)) G
  | .ref a, .ref b => ∃ xs ys, G a = some (.lst xs) ∧ G b = some (.lst ys) ∧ xs.length + ys.length ≤ sizeLine ∧ ∀ p G', New G p (.lst (xs ++ ys)) G' → Q (.ref p) G'
  | _, _ => False
def rAddA (K : PySem.W.Frag) : R2 := fun x y H Q => (rI0 (fun i j => .int (i + j)) x y H Q) ∨ (fun x y H Q => (fun x y H Q => ∃ i j, x = V.str i ∧ y = V.str j ∧ i.length + j.length ≤ sizeLine ∧ Q (.str (i ++ j)) H) x y H Q ∨ (fun x y H Q => rCatA K x y H Q ∨ rCat x y H Q) x y H Q) x y H Q
theorem op_addA {X : Cx} : OpR X (binaryOp .Add) (rAddA X.K) := op_add.or (op_add_str.or (op_catA.or op_cat))
theorem RepL.nil_of {H : Hp} {vs : List V} {xs : List AV} (r : RepL K H xs vs) (h : vs = []) : xs = [] := by
  subst h; cases r; rfl
theorem lf_add : Lift2 K (rAddA K) fAdd := by
  intro x y v w G H Q0 Q rx ry hg h hq
  cases rx with
  | int i =>
    cases ry with
    | int j => exact .inl ⟨i, j, rfl, rfl, hq _ _ _ _ h .refl hg (.int _)⟩
    | _ => exact h.elim
  | str a =>
    cases ry with
    | str b => exact .inr (.inl ⟨a, b, rfl, rfl, h.1, hq _ _ _ _ h.2 .refl hg (.str _)⟩)
    | _ => exact h.elim
  | tup h1 l1 =>
    cases ry with
    | tup h2 l2 =>
      refine .inr (.inr (.inl ⟨_, _, _, _, rfl, rfl, SqT.of h1, SqT.of h2, by rw [l1.length, l2.length]; exact h.1, fun z => ?_, fun _ z => ?_, fun _ _ p hp => ?_⟩))
      · have z' := l1.nil_of z
        subst z'
        exact hq _ _ _ _ h.2 .refl hg (.tup h2 l2)
      · have z' := l2.nil_of z
        subst z'
        have h' := h.2
        rw [List.append_nil] at h'
        exact hq _ _ _ _ h' .refl hg (.tup h1 l1)
      · exact new_tup hg (l1.append l2) h.2 hq hp
    | _ => exact h.elim
  | ref a =>
    cases ry with
    | ref b =>
      obtain ⟨xs, ys, e1, e2, hl, h⟩ := h
      obtain ⟨vs, hv, l1⟩ := hg _ _ e1
      obtain ⟨ws, hw, l2⟩ := hg _ _ e2
      exact .inr (.inr (.inr ⟨a, b, vs, ws, rfl, rfl, hv, hw, by rw [l1.length, l2.length]; exact hl, fun p hp => new_lst hg (l1.append l2) h hq hp⟩))
    | _ => exact h.elim
  | _ => exact h.elim
end
section
variable {X : Cx} {W : WW} {a b : Expr} {ta tb : AT} {pos : Pos}
theorem ae_add (ha : AE X W a ta) (hb : AE X W b tb) : AE X W (.BinOp a .Add b pos) (aOp2 fAdd ta tb) := ae_op op_addA lf_add ha hb
theorem ae_sub (ha : AE X W a ta) (hb : AE X W b tb) : AE X W (.BinOp a .Sub b pos) (aOp2 fSub ta tb) := ae_op op_sub (lf_i fun _ _ _ => .int _) ha hb
theorem ae_mod (ha : AE X W a ta) (hb : AE X W b tb) : AE X W (.BinOp a .Mod b pos) (aOp2 fMod ta tb) := ae_op op_mod (lf_ic fun _ _ _ => .int _) ha hb
theorem ae_mul (ha : AE X W a ta) (hb : AE X W b tb) : AE X W (.BinOp a .Mult b pos) (aOp2 fMul ta tb) := ae_op op_mul (lf_ic fun _ _ _ => .int _) ha hb
theorem ae_div (ha : AE X W a ta) (hb : AE X W b tb) : AE X W (.BinOp a .FloorDiv b pos) (aOp2 fDiv ta tb) := ae_op op_fdiv (lf_ic fun _ _ _ => .int _) ha hb
theorem ae_pow (ha : AE X W a ta) (hb : AE X W b tb) : AE X W (.BinOp a .Pow b pos) (aOp2 fPow ta tb) := ae_op op_pow (lf_ic fun _ _ _ => .int _) ha hb
theorem ae_lt (ha : AE X W a ta) (hb : AE X W b tb) : AE X W (.Compare a [.Lt] [b] pos) (aOp2 fLt ta tb) := ae_cmp op_lt (lf_i fun _ _ _ => .bl _) ha hb
theorem ae_le (ha : AE X W a ta) (hb : AE X W b tb) : AE X W (.Compare a [.LtE] [b] pos) (aOp2 fLe ta tb) := ae_cmp op_le (lf_i fun _ _ _ => .bl _) ha hb
theorem ae_gt (ha : AE X W a ta) (hb : AE X W b tb) : AE X W (.Compare a [.Gt] [b] pos) (aOp2 fGt ta tb) := ae_cmp op_gt (lf_i fun _ _ _ => .bl _) ha hb
theorem ae_ge (ha : AE X W a ta) (hb : AE X W b tb) : AE X W (.Compare a [.GtE] [b] pos) (aOp2 fGe ta tb) := ae_cmp op_ge (lf_i fun _ _ _ => .bl _) ha hb
theorem at_lt (ha : AE X W a ta) (hb : AE X W b tb) : ATest X W (.Compare a [.Lt] [b] pos) (aTest (aOp2 fLt ta tb)) := at_cmp op_lt (lf_i fun _ _ _ => .bl _) ha hb
theorem at_le (ha : AE X W a ta) (hb : AE X W b tb) : ATest X W (.Compare a [.LtE] [b] pos) (aTest (aOp2 fLe ta tb)) := at_cmp op_le (lf_i fun _ _ _ => .bl _) ha hb
theorem at_gt (ha : AE X W a ta) (hb : AE X W b tb) : ATest X W (.Compare a [.Gt] [b] pos) (aTest (aOp2 fGt ta tb)) := at_cmp op_gt (lf_i fun _ _ _ => .bl _) ha hb
theorem at_ge (ha : AE X W a ta) (hb : AE X W b tb) : ATest X W (.Compare a [.GtE] [b] pos) (aTest (aOp2 fGe ta tb)) := at_cmp op_ge (lf_i fun _ _ _ => .bl _) ha hb
end
end Rw
namespace Rw
open PySem L2

/-! ### == of data -/
mutual
inductive PD (G : Gp) : AV → PyData → Prop
  | non : PD G .non .none
  | bl (b : Bool) : PD G (.bl b) (.bool b)
  | int (i : Int) : PD G (.int i) (.int i)
  | str (x : Str) : PD G (.str x) (.str x)
  | tup {xs : List AV} {ds : List PyData} : PDL G xs ds → PD G (.tup xs) (.tuple ds)
  | lst {a : Addr} {xs : List AV} {ds : List PyData} : G a = some (.lst xs) → PDL G xs ds → PD G (.ref a) (.list ds)
inductive PDL (G : Gp) : List AV → List PyData → Prop
  | nil : PDL G [] []
  | cons {x : AV} {d : PyData} {xs : List AV} {ds : List PyData} : PD G x d → PDL G xs ds → PDL G (x :: xs) (d :: ds)
end
mutual
theorem PD.dp {K : PySem.W.Frag} {G : Gp} {H : Hp} (hg : SimG K G H) : ∀ (d : PyData) (x : AV) (v : V), PD G x d → Rep K H x v → Dp K H v d
  | .none, _, _, h, r => by cases h; cases r; exact .non
  | .bool b, _, _, h, r => by cases h; cases r; exact .bl b
  | .int i, _, _, h, r => by cases h; cases r; exact .int i
  | .str x, _, _, h, r => by cases h; cases r; exact .str x
  | .tuple ds, _, _, h, r => by
    cases h with
    | tup hl =>
      cases r with
      | tup h1 l1 => exact .tup (SqT.of h1) (PDL.dp hg ds _ _ hl l1)
  | .list ds, _, _, h, r => by
    cases h with
    | lst e hl =>
      cases r
      obtain ⟨vs, hv, l1⟩ := hg _ _ e
      exact .lst (SqL.of hv) (PDL.dp hg ds _ _ hl l1)
  | .dict _, _, _, h, _ => by cases h
theorem PDL.dp {K : PySem.W.Frag} {G : Gp} {H : Hp} (hg : SimG K G H) : ∀ (ds : List PyData) (xs : List AV) (vs : List V), PDL G xs ds → RepL K H xs vs → DpAll K H vs ds
  | [], _, _, h, r => by cases h; cases r; exact .nil
  | d :: ds, _, _, h, r => by
    cases h with
    | cons h1 h2 =>
      cases r with
      | cons r1 r2 => exact .cons (PD.dp hg d _ _ h1 r1) (PDL.dp hg ds _ _ h2 r2)
end
def okD (d e : PyData) : Prop := d.canLay0 = true ∧ e.canLay0 = true ∧ min d.depth e.depth ≤ 264
def fEqD (neg : Bool) : AF2 := fun x y G Q => ∃ d e, PD G x d ∧ PD G y e ∧ okD d e ∧ Q (.bl (if neg = true then !PyData.eqv d e else PyData.eqv d e)) G
def rEqD' (K : PySem.W.Frag) (neg : Bool) : R2 := fun x y H Q => ∃ d e, Dp K H x d ∧ Dp K H y e ∧ okD d e ∧ Q (.bl (if neg = true then !PyData.eqv d e else PyData.eqv d e)) H
theorem op_eqD' {X : Cx} (hu : X.A.units + 264 < cLine) : OpR X (compareOp .Eq) (rEqD' X.K false) := by
  intro pins s σ H x y v u Q I rx ry h
  obtain ⟨d, e, hd, he, ⟨c1, c2, c3⟩, q⟩ := h
  obtain ⟨as, r1⟩ := Dp.reads I d x v hd rx
  obtain ⟨bs, r2⟩ := Dp.reads I e y u he ry
  exact SeqAt.compareEq_reads r1 r2 c1 c2 (by omega) ⟨.bl _, H, I, rfl, q⟩
theorem op_neD' {X : Cx} (hu : X.A.units + 264 < cLine) : OpR X (compareOp .NotEq) (rEqD' X.K true) := by
  intro pins s σ H x y v u Q I rx ry h
  obtain ⟨d, e, hd, he, ⟨c1, c2, c3⟩, q⟩ := h
  obtain ⟨as, r1⟩ := Dp.reads I d x v hd rx
  obtain ⟨bs, r2⟩ := Dp.reads I e y u he ry
  exact SeqAt.compareNe_reads r1 r2 c1 c2 (by omega) ⟨.bl _, H, I, rfl, q⟩
theorem lf_eqD {K : PySem.W.Frag} {neg : Bool} : Lift2 K (rEqD' K neg) (fEqD neg) := by
  intro x y v w G H Q0 Q rx ry hg h hq
  obtain ⟨d, e, h1, h2, ok, h⟩ := h
  exact ⟨d, e, PD.dp hg d x v h1 rx, PD.dp hg e y w h2 ry, ok, hq _ _ _ _ h .refl hg (.bl _)⟩
/-- scalars by themselves -/
def fEq (neg : Bool) : AF2 := fun x y G Q => match x, y with
  | .int i, .int j => Q (.bl (if neg = true then !decide (i = j) else decide (i = j))) G
  | .str i, .str j => Q (.bl (if neg = true then !decide (i = j) else decide (i = j))) G
  | .bl i, .bl j => Q (.bl (if neg = true then !decide (i = j) else decide (i = j))) G
  | x, y => fEqD neg x y G Q
theorem vint_eq {i j : Int} : decide (V.int i = V.int j) = decide (i = j) := by rw [dec_int, Bool.beq_eq_decide_eq]
theorem vstr_eq {i j : Str} : decide (V.str i = V.str j) = decide (i = j) := by rw [dec_str, Bool.beq_eq_decide_eq]
theorem vbl_eq {i j : Bool} : decide (V.bl i = V.bl j) = decide (i = j) := by rw [dec_bl, Bool.beq_eq_decide_eq]
theorem lf_eq {K : PySem.W.Frag} : Lift2 K (fun x y H Q => rEq x y H Q ∨ rEqD' K false x y H Q) (fEq false) := by
  intro x y v w G H Q0 Q rx ry hg h hq
  have hq' := hq
  unfold fEq at h
  split at h
  · cases rx; cases ry
    exact .inl ⟨rfl, by rw [vint_eq]; exact hq _ _ _ _ h .refl hg (.bl _)⟩
  · cases rx; cases ry
    exact .inl ⟨rfl, by rw [vstr_eq]; exact hq _ _ _ _ h .refl hg (.bl _)⟩
  · cases rx; cases ry
    exact .inl ⟨rfl, by rw [vbl_eq]; exact hq _ _ _ _ h .refl hg (.bl _)⟩
  · exact .inr (lf_eqD _ _ _ _ _ _ _ _ rx ry hg h hq)
theorem lf_ne {K : PySem.W.Frag} : Lift2 K (fun x y H Q => rNe x y H Q ∨ rEqD' K true x y H Q) (fEq true) := by
  intro x y v w G H Q0 Q rx ry hg h hq
  unfold fEq at h
  split at h
  · cases rx; cases ry
    exact .inl ⟨rfl, by rw [vint_eq]; exact hq _ _ _ _ h .refl hg (.bl _)⟩
  · cases rx; cases ry
    exact .inl ⟨rfl, by rw [vstr_eq]; exact hq _ _ _ _ h .refl hg (.bl _)⟩
  · cases rx; cases ry
    exact .inl ⟨rfl, by rw [vbl_eq]; exact hq _ _ _ _ h .refl hg (.bl _)⟩
  · exact .inr (lf_eqD _ _ _ _ _ _ _ _ rx ry hg h hq)
theorem hu264 {A : Around} {k : Nat} (hr : Room (k + 4) A) : A.units + 264 < cLine := by have := hr.un; omega
section
variable {X : Cx} {W : WW} {a b : Expr} {ta tb : AT} {pos : Pos} {k : Nat}
theorem ae_eq (hr : Room (k + 4) X.A) (ha : AE X W a ta) (hb : AE X W b tb) : AE X W (.Compare a [.Eq] [b] pos) (aOp2 (fEq false) ta tb) := ae_cmp (op_eq.or (op_eqD' (hu264 hr))) lf_eq ha hb
theorem ae_ne (hr : Room (k + 4) X.A) (ha : AE X W a ta) (hb : AE X W b tb) : AE X W (.Compare a [.NotEq] [b] pos) (aOp2 (fEq true) ta tb) := ae_cmp (op_ne.or (op_neD' (hu264 hr))) lf_ne ha hb
theorem at_eq (hr : Room (k + 4) X.A) (ha : AE X W a ta) (hb : AE X W b tb) : ATest X W (.Compare a [.Eq] [b] pos) (aTest (aOp2 (fEq false) ta tb)) := at_cmp (op_eq.or (op_eqD' (hu264 hr))) lf_eq ha hb
theorem at_ne (hr : Room (k + 4) X.A) (ha : AE X W a ta) (hb : AE X W b tb) : ATest X W (.Compare a [.NotEq] [b] pos) (aTest (aOp2 (fEq true) ta tb)) := at_cmp (op_ne.or (op_neD' (hu264 hr))) lf_ne ha hb
end

/-! ### is None -/
def fIs (neg : Bool) : AF2 := fun x y G Q => match y with
  | .non => Q (.bl (match x with | .non => !neg | _ => neg)) G
  | _ => False
theorem lf_is {K : PySem.W.Frag} : Lift2 K (fun x y H Q => y = .non ∧ Q (.bl (decide (x = .non))) H) (fIs false) := by
  intro x y v w G H Q0 Q rx ry hg h hq
  cases ry with
  | non => refine ⟨rfl, ?_⟩; cases rx <;> exact hq _ _ _ _ h .refl hg (.bl _)
  | _ => exact h.elim
theorem lf_isn {K : PySem.W.Frag} : Lift2 K (fun x y H Q => y = .non ∧ Q (.bl (!decide (x = .non))) H) (fIs true) := by
  intro x y v w G H Q0 Q rx ry hg h hq
  cases ry with
  | non => refine ⟨rfl, ?_⟩; cases rx <;> exact hq _ _ _ _ h .refl hg (.bl _)
  | _ => exact h.elim
section
variable {X : Cx} {W : WW} {a b : Expr} {ta tb : AT} {pos : Pos}
theorem ae_is (ha : AE X W a ta) (hb : AE X W b tb) : AE X W (.Compare a [.Is] [b] pos) (aOp2 (fIs false) ta tb) := ae_cmp op_isN lf_is ha hb
theorem ae_isn (ha : AE X W a ta) (hb : AE X W b tb) : AE X W (.Compare a [.IsNot] [b] pos) (aOp2 (fIs true) ta tb) := ae_cmp op_notN lf_isn ha hb
theorem at_is (ha : AE X W a ta) (hb : AE X W b tb) : ATest X W (.Compare a [.Is] [b] pos) (aTest (aOp2 (fIs false) ta tb)) := at_cmp op_isN lf_is ha hb
theorem at_isn (ha : AE X W a ta) (hb : AE X W b tb) : ATest X W (.Compare a [.IsNot] [b] pos) (aTest (aOp2 (fIs true) ta tb)) := at_cmp op_notN lf_isn ha hb
end

/-! ### in, not in: a list or tuple of flat values; text in text -/
def toV : AV → V
  | .non => .non | .bl b => .bl b | .int i => .int i | .str x => .str x | .ref a => .ref a | .ty n => .ty n | .tup _ => .ref 0 | .ro _ => .ref 0
def flatA (x : AV) : Bool := match x with
  | .non | .bl _ | .int _ | .str _ => true
  | _ => false
theorem Rep.flat {K : PySem.W.Frag} {H : Hp} {x : AV} {v : V} (r : Rep K H x v) (f : flatA x = true) : v = toV x ∧ flatV v = true := by
  cases r with
  | non => exact ⟨rfl, rfl⟩
  | bl b => exact ⟨rfl, rfl⟩
  | int i => exact ⟨rfl, rfl⟩
  | str x => exact ⟨rfl, rfl⟩
  | _ => cases f
theorem RepL.flat {K : PySem.W.Frag} {H : Hp} : ∀ {xs : List AV} {vs : List V}, RepL K H xs vs → xs.all flatA = true → vs = xs.map toV ∧ vs.all flatV = true
  | _, _, .nil, _ => ⟨rfl, rfl⟩
  | _, _, .cons r t, f => by
    rw [List.all_cons, Bool.and_eq_true] at f
    obtain ⟨h1, h2⟩ := r.flat f.1
    obtain ⟨h3, h4⟩ := RepL.flat t f.2
    subst h1 h3
    exact ⟨rfl, by rw [List.all_cons, h2, h4]; rfl⟩
def inA (x : AV) (xs : List AV) : Bool := inV (toV x) (xs.map toV)
def fIn (neg : Bool) : AF2 := fun x y G Q => match x, y with
  | .str a, .str b => Q (.bl (if neg = true then !(!(Builtin.Str.occurrences b a 0 b.length 1).isEmpty) else !(Builtin.Str.occurrences b a 0 b.length 1).isEmpty)) G
  | x, .tup xs => flatA x = true ∧ xs.all flatA = true ∧ Q (.bl (if neg = true then !inA x xs else inA x xs)) G
  | x, .ref a => ∃ xs, G a = some (.lst xs) ∧ flatA x = true ∧ xs.all flatA = true ∧ Q (.bl (if neg = true then !inA x xs else inA x xs)) G
  | _, _ => False
theorem lf_in0 {K : PySem.W.Frag} {neg : Bool} {rs : R2} (hs : ∀ i j H Q, Q (.bl (if neg = true then !(!(Builtin.Str.occurrences j i 0 j.length 1).isEmpty) else !(Builtin.Str.occurrences j i 0 j.length 1).isEmpty)) H → rs (.str i) (.str j) H Q) :
    Lift2 K (fun x y H Q => rs x y H Q ∨ rIn K neg x y H Q) (fIn neg) := by
  intro x y v w G H Q0 Q rx ry hg h hq
  have fin : ∀ {xs : List AV} {p : Addr} {vs : List V}, RepL K H xs vs → (SqL K H p vs ∨ SqT K H p vs) → flatA x = true → xs.all flatA = true → Q0 (.bl (if neg = true then !inA x xs else inA x xs)) G → rIn K neg v (.ref p) H Q := by
    intro xs p vs r sq f1 f2 h
    obtain ⟨e1, e2⟩ := rx.flat f1
    obtain ⟨e3, e4⟩ := r.flat f2
    subst e1 e3
    refine ⟨p, _, rfl, sq, e2, e4, ?_⟩
    have := hq _ _ _ _ h .refl hg (.bl _)
    unfold inA at this
    cases neg <;> simpa using this
  unfold fIn at h
  split at h
  · cases rx; cases ry
    exact .inl (hs _ _ _ _ (hq _ _ _ _ h .refl hg (.bl _)))
  · cases ry with
    | tup h1 l1 => exact .inr (fin l1 (.inr (SqT.of h1)) h.1 h.2.1 h.2.2)
  · cases ry
    obtain ⟨xs, e, f1, f2, h⟩ := h
    obtain ⟨vs, hv, l1⟩ := hg _ _ e
    exact .inr (fin l1 (.inl (SqL.of hv)) f1 f2 h)
  · exact h.elim
section
variable {X : Cx} {W : WW} {a b : Expr} {ta tb : AT} {pos : Pos}
theorem op_inA : OpR X (compareOp .In) (fun x y H Q => (∃ i j, x = .str i ∧ y = .str j ∧ Q (.bl (!(Builtin.Str.occurrences j i 0 j.length 1).isEmpty)) H) ∨ rIn X.K false x y H Q) := op_in_str.or op_in_seq
theorem op_notInA : OpR X (compareOp .NotIn) (fun x y H Q => (∃ i j, x = .str i ∧ y = .str j ∧ Q (.bl (!(!(Builtin.Str.occurrences j i 0 j.length 1).isEmpty))) H) ∨ rIn X.K true x y H Q) := op_notIn_str.or op_notIn_seq
theorem ae_in (ha : AE X W a ta) (hb : AE X W b tb) (hm : behindInMarks .In b = false := by rfl) : AE X W (.Compare a [.In] [b] pos) (aOp2 (fIn false) ta tb) := ae_cmp op_inA (lf_in0 fun i j H Q h => ⟨i, j, rfl, rfl, h⟩) ha hb hm
theorem ae_notIn (ha : AE X W a ta) (hb : AE X W b tb) (hm : behindInMarks .NotIn b = false := by rfl) : AE X W (.Compare a [.NotIn] [b] pos) (aOp2 (fIn true) ta tb) := ae_cmp op_notInA (lf_in0 fun i j H Q h => ⟨i, j, rfl, rfl, h⟩) ha hb hm
theorem at_in (ha : AE X W a ta) (hb : AE X W b tb) (hm : behindInMarks .In b = false := by rfl) : ATest X W (.Compare a [.In] [b] pos) (aTest (aOp2 (fIn false) ta tb)) := at_cmp op_inA (lf_in0 fun i j H Q h => ⟨i, j, rfl, rfl, h⟩) ha hb hm
theorem at_notIn (ha : AE X W a ta) (hb : AE X W b tb) (hm : behindInMarks .NotIn b = false := by rfl) : ATest X W (.Compare a [.NotIn] [b] pos) (aTest (aOp2 (fIn true) ta tb)) := at_cmp op_notInA (lf_in0 fun i j H Q h => ⟨i, j, rfl, rfl, h⟩) ha hb hm
end

/-! ### isinstance against a built-in class -/
def tyA (x : AV) (G : Gp) (P : String → Prop) : Prop := match x with
  | .non => P "NoneType"
  | .bl _ => P "bool"
  | .int _ => P "int"
  | .str _ => P "str"
  | .tup _ => P "tuple"
  | .ro _ => P "list"
  | .ref a => (∃ xs, G a = some (.lst xs) ∧ P "list") ∨ (∃ xs, G a = some (.dK xs) ∧ P "dict")
  | _ => False
/-- the answers that are wanted here -/
def isiB (t c : String) : Bool := t == c || (t == "bool" && c == "int")
def fIsi : AFN := fun xs G Q => match xs with
  | [x, .ty c] => tyA x G fun t => kitB t c = some (isiB t c) ∧ Q (.bl (isiB t c)) G
  | _ => False
theorem lf_isi {K : PySem.W.Frag} : LiftN K (rIsi K) fIsi := by
  intro xs vs G H Q0 Q r hg h hq
  unfold fIsi at h
  split at h
  · rename_i x c
    obtain ⟨v, w, rfl, rx, rc⟩ := r.two
    cases rc
    have fin : ∀ t, TyX K H v (.type t) → (kitB t c = some (isiB t c) ∧ Q0 (.bl (isiB t c)) G) → rIsi K [v, .ty c] H Q := fun t ht ⟨h1, h2⟩ =>
      ⟨v, .ty c, .type t, .type c, _, rfl, .ty c, ht, kit_ty h1, hq _ _ _ _ h2 .refl hg (.bl _)⟩
    cases rx with
    | non => exact fin _ (.base .non) h
    | bl b => exact fin _ (.base (.bl b)) h
    | int i => exact fin _ (.base (.int i)) h
    | str x => exact fin _ (.base (.str x)) h
    | tup h1 _ => exact fin _ (.base (.tup h1)) h
    | ro h1 =>
      rcases h1 with ⟨o, h1⟩ | ⟨o, its, n, h1, h2, _⟩
      · exact fin _ (.base (.frz h1)) h
      · exact fin _ (.kList h1 h2) h
    | ref a =>
      rcases h with ⟨xs, e, h⟩ | ⟨xs, e, h⟩
      · obtain ⟨vs, hv, _⟩ := hg _ _ e
        exact fin _ (.base (.lst hv)) h
      · obtain ⟨vs, hv, _⟩ := hg _ _ e
        exact fin _ (.base (.dK hv)) h
    | _ => exact h.elim
  · exact h.elim

/-! ### built-in functions -/
def fLen : AFN := fun xs G Q => match xs with
  | [.tup ys] => Q (.int ys.length) G
  | [.ro ys] => Q (.int ys.length) G
  | [.str z] => z.length ≤ sizeLine ∧ Q (.int z.length) G
  | [.ref a] => (∃ ys, G a = some (.lst ys) ∧ Q (.int ys.length) G) ∨ ∃ ys, G a = some (.dK ys) ∧ Q (.int ys.length) G
  | _ => False
theorem lf_len {K : PySem.W.Frag} : LiftN K (fun xs H Q => (∃ x n, xs = [x] ∧ LenV K x H n ∧ Q (.int n) H) ∨ ∃ (a : Addr) (kvs : List (Key × V)), xs = [V.ref a] ∧ H a = some (.dK kvs) ∧ Q (.int kvs.length) H) fLen := by
  intro xs vs G H Q0 Q r hg h hq
  unfold fLen at h
  split at h
  · obtain ⟨v, rfl, rx⟩ := r.one
    cases rx with
    | tup h1 l1 => exact .inl ⟨_, _, rfl, .inr ⟨_, SqT.of h1, rfl⟩, by rw [l1.length]; exact hq _ _ _ _ h .refl hg (.int _)⟩
  · obtain ⟨v, rfl, rx⟩ := r.one
    cases rx with
    | ro h1 => exact .inl ⟨_, _, rfl, .inl ⟨_, h1.sq, rfl⟩, by rw [List.length_map]; exact hq _ _ _ _ h .refl hg (.int _)⟩
  · obtain ⟨v, rfl, rx⟩ := r.one
    cases rx
    exact .inl ⟨_, _, rfl, ⟨h.1, rfl⟩, hq _ _ _ _ h.2 .refl hg (.int _)⟩
  · obtain ⟨v, rfl, rx⟩ := r.one
    cases rx
    rcases h with ⟨ys, e, h⟩ | ⟨ys, e, h⟩
    · obtain ⟨vs, hv, l1⟩ := hg _ _ e
      exact .inl ⟨_, _, rfl, .inl ⟨_, SqL.of hv, rfl⟩, by rw [l1.length]; exact hq _ _ _ _ h .refl hg (.int _)⟩
    · obtain ⟨vs, hv, l1⟩ := hg _ _ e
      refine .inr ⟨_, _, rfl, hv, ?_⟩
      rw [← Paired.length l1]
      exact hq _ _ _ _ h .refl hg (.int _)
  · exact h.elim
theorem call_lenA {X : Cx} : CallR X (.builtin "len") (fun xs H Q => (∃ x n, xs = [x] ∧ LenV X.K x H n ∧ Q (.int n) H) ∨ ∃ (a : Addr) (kvs : List (Key × V)), xs = [V.ref a] ∧ H a = some (.dK kvs) ∧ Q (.int kvs.length) H) := by
  refine call_len.or ?_
  intro pins s σ H xs us Q I r h
  obtain ⟨a, kvs, rfl, e, q⟩ := h
  obtain ⟨u, rfl, ru⟩ := vals1 r
  cases ru
  exact d_len I (.inl e) fun t s' I' => ⟨.int kvs.length, H, I', ⟨t, rfl⟩, q⟩
def fAbs : AFN := fun xs G Q => match xs with | [.int i] => Q (.int (if i < 0 then -i else i)) G | _ => False
theorem lf_abs {K : PySem.W.Frag} : LiftN K (fun xs H Q => ∃ i, xs = [.int i] ∧ Q (.int (if i < 0 then -i else i)) H) fAbs := by
  intro xs vs G H Q0 Q r hg h hq
  unfold fAbs at h
  split at h
  · obtain ⟨v, rfl, rx⟩ := r.one
    cases rx
    exact ⟨_, rfl, hq _ _ _ _ h .refl hg (.int _)⟩
  · exact h.elim
def fMax2 : AFN := fun xs G Q => match xs with | [.int i, .int j] => Q (.int (if j > i then j else i)) G | _ => False
theorem lf_max2 {K : PySem.W.Frag} : LiftN K (fun xs H Q => ∃ i j, xs = [.int i, .int j] ∧ Q (.int (if j > i then j else i)) H) fMax2 := by
  intro xs vs G H Q0 Q r hg h hq
  unfold fMax2 at h
  split at h
  · obtain ⟨v, w, rfl, rx, ry⟩ := r.two
    cases rx; cases ry
    exact ⟨_, _, rfl, hq _ _ _ _ h .refl hg (.int _)⟩
  · exact h.elim
def fMin2 : AFN := fun xs G Q => match xs with | [.int i, .int j] => Q (.int (if j < i then j else i)) G | _ => False
theorem lf_min2 {K : PySem.W.Frag} : LiftN K (fun xs H Q => ∃ i j, xs = [.int i, .int j] ∧ Q (.int (if j < i then j else i)) H) fMin2 := by
  intro xs vs G H Q0 Q r hg h hq
  unfold fMin2 at h
  split at h
  · obtain ⟨v, w, rfl, rx, ry⟩ := r.two
    cases rx; cases ry
    exact ⟨_, _, rfl, hq _ _ _ _ h .refl hg (.int _)⟩
  · exact h.elim
def fInt : AFN := fun xs G Q => match xs with | [.int i] => Q (.int i) G | [.bl b] => Q (.int (if b = true then 1 else 0)) G | _ => False
theorem lf_int {K : PySem.W.Frag} : LiftN K (fun xs H Q => (∃ i, xs = [.int i] ∧ Q (.int i) H) ∨ ∃ k, xs = [.bl k] ∧ Q (.int (if k then 1 else 0)) H) fInt := by
  intro xs vs G H Q0 Q r hg h hq
  unfold fInt at h
  split at h
  · obtain ⟨v, rfl, rx⟩ := r.one
    cases rx
    exact .inl ⟨_, rfl, hq _ _ _ _ h .refl hg (.int _)⟩
  · obtain ⟨v, rfl, rx⟩ := r.one
    cases rx
    exact .inr ⟨_, rfl, hq _ _ _ _ h .refl hg (.int _)⟩
  · exact h.elim
def fList : AFN := fun xs G Q => match xs with
  | [.tup ys] => ∀ p G', New G p (.lst ys) G' → Q (.ref p) G'
  | [.ref a] => ∃ ys, G a = some (.lst ys) ∧ ∀ p G', New G p (.lst ys) G' → Q (.ref p) G'
  | _ => False
theorem lf_list {K : PySem.W.Frag} : LiftN K (fun xs H Q => ∃ p ys, xs = [.ref p] ∧ (SqL K H p ys ∨ SqT K H p ys) ∧ ∀ l, H l = none → Q (.ref l) (upd H l (.lst ys))) fList := by
  intro xs vs G H Q0 Q r hg h hq
  unfold fList at h
  split at h
  · obtain ⟨v, rfl, rx⟩ := r.one
    cases rx with
    | tup h1 l1 => exact ⟨_, _, rfl, .inr (SqT.of h1), fun l hl => new_lst hg l1 h hq hl⟩
  · obtain ⟨v, rfl, rx⟩ := r.one
    cases rx
    obtain ⟨ys, e, h⟩ := h
    obtain ⟨vs, hv, l1⟩ := hg _ _ e
    exact ⟨_, _, rfl, .inl (SqL.of hv), fun l hl => new_lst hg l1 h hq hl⟩
  · exact h.elim
def fTuple : AFN := fun xs G Q => match xs with
  | [.ref a] => ∃ ys, G a = some (.lst ys) ∧ Q (.tup ys) G
  | [.tup ys] => Q (.tup ys) G
  | _ => False
theorem lf_tuple {K : PySem.W.Frag} : LiftN K (fun xs H Q => ∃ p ys, xs = [.ref p] ∧ ((SqL K H p ys ∧ ∀ l, H l = none → Q (.ref l) (upd H l (.tup ys))) ∨ (SqT K H p ys ∧ Q (.ref p) H))) fTuple := by
  intro xs vs G H Q0 Q r hg h hq
  unfold fTuple at h
  split at h
  · obtain ⟨v, rfl, rx⟩ := r.one
    cases rx
    obtain ⟨ys, e, h⟩ := h
    obtain ⟨vs, hv, l1⟩ := hg _ _ e
    exact ⟨_, _, rfl, .inl ⟨SqL.of hv, fun l hl => new_tup hg l1 h hq hl⟩⟩
  · obtain ⟨v, rfl, rx⟩ := r.one
    cases rx with
    | tup h1 l1 => exact ⟨_, _, rfl, .inr ⟨SqT.of h1, hq _ _ _ _ h .refl hg (.tup h1 l1)⟩⟩
  · exact h.elim
theorem RepL.ints {K : PySem.W.Frag} {H : Hp} : ∀ {ns : List Int} {vs : List V}, RepL K H (ns.map AV.int) vs → vs = ns.map V.int
  | [], _, h => by cases h; rfl
  | n :: ns, _, h => by
    cases h with
    | cons r t => cases r; rw [RepL.ints t]; rfl
theorem RepL.strs {K : PySem.W.Frag} {H : Hp} : ∀ {ns : List Str} {vs : List V}, RepL K H (ns.map AV.str) vs → vs = ns.map V.str
  | [], _, h => by cases h; rfl
  | n :: ns, _, h => by
    cases h with
    | cons r t => cases r; rw [RepL.strs t]; rfl
theorem RepL.bls {K : PySem.W.Frag} {H : Hp} : ∀ {ns : List Bool} {vs : List V}, RepL K H (ns.map AV.bl) vs → vs = ns.map V.bl
  | [], _, h => by cases h; rfl
  | n :: ns, _, h => by
    cases h with
    | cons r t => cases r; rw [RepL.bls t]; rfl
def fSum : AFN := fun xs G Q => match xs with
  | [.ref a] => ∃ ns : List Int, G a = some (.lst (ns.map AV.int)) ∧ Q (.int ns.sum) G
  | _ => False
theorem lf_sum {K : PySem.W.Frag} : LiftN K (rSum K) fSum := by
  intro xs vs G H Q0 Q r hg h hq
  unfold fSum at h
  split at h
  · obtain ⟨v, rfl, rx⟩ := r.one
    cases rx
    obtain ⟨ys, e, h⟩ := h
    obtain ⟨vs, hv, l1⟩ := hg _ _ e
    have := l1.ints
    subst this
    exact ⟨_, _, rfl, SqL.of hv, hq _ _ _ _ h .refl hg (.int _)⟩
  · exact h.elim
def fAll : AFN := fun xs G Q => match xs with
  | [.ref a] => ∃ ns : List Bool, G a = some (.lst (ns.map AV.bl)) ∧ Q (.bl (ns.all id)) G
  | _ => False
theorem lf_all {K : PySem.W.Frag} : LiftN K (rAll K) fAll := by
  intro xs vs G H Q0 Q r hg h hq
  unfold fAll at h
  split at h
  · obtain ⟨v, rfl, rx⟩ := r.one
    cases rx
    obtain ⟨ys, e, h⟩ := h
    obtain ⟨vs, hv, l1⟩ := hg _ _ e
    have := l1.bls
    subst this
    exact ⟨_, _, rfl, SqL.of hv, hq _ _ _ _ h .refl hg (.bl _)⟩
  · exact h.elim

/-! ### methods of lists, texts -/
def fAppend : AFM := fun x xs G Q => match x, xs with
  | .ref l, [y] => ∃ ys, G l = some (.lst ys) ∧ ys.length < sizeLine ∧ Q .non (gset G l (.lst (ys ++ [y])))
  | _, _ => False
theorem wr_lst {K : PySem.W.Frag} {G : Gp} {H : Hp} {Q0 : AK} {Q : VK} {xs ys : List AV} {ws : List V} {p : Addr} {x : AV} {v : V} (hg : SimG K G H) (h0 : G p = some (.lst xs)) (r : RepL K H ys ws) (rx : Rep K H x v) (h : Q0 x (gset G p (.lst ys))) (hq : LK K G H Q0 Q) : Q v (upd H p (.lst ws)) := by
  obtain ⟨e, g⟩ := ext_write (o := .lst ws) (g := .lst ys) hg h0 fun k => ⟨ws, upd_same, r.up k⟩
  exact hq _ _ _ _ h e g (rx.up e.toKept)
theorem lf_append {K : PySem.W.Frag} : LiftM K rAppend fAppend := by
  intro x v xs vs G H Q0 Q rx rs hg h hq
  unfold fAppend at h
  split at h
  · cases rx
    obtain ⟨w, rfl, rw'⟩ := rs.one
    obtain ⟨ys, e, hl, h⟩ := h
    obtain ⟨us, hv, l1⟩ := hg _ _ e
    exact ⟨_, _, _, rfl, rfl, hv, by rw [l1.length]; exact hl, wr_lst hg e (l1.append (.cons rw' .nil)) .non h hq⟩
  · exact h.elim
def fExtend : AFM := fun x xs G Q => match x, xs with
  | .ref l, [.ref b] => ∃ ys zs, G l = some (.lst ys) ∧ G b = some (.lst zs) ∧ ys.length + zs.length ≤ sizeLine ∧ Q .non (gset G l (.lst (ys ++ zs)))
  | _, _ => False
theorem lf_extend {K : PySem.W.Frag} : LiftM K rExtend fExtend := by
  intro x v xs vs G H Q0 Q rx rs hg h hq
  unfold fExtend at h
  split at h
  · cases rx
    obtain ⟨w, rfl, rw'⟩ := rs.one
    cases rw'
    obtain ⟨ys, zs, e, e2, hl, h⟩ := h
    obtain ⟨us, hv, l1⟩ := hg _ _ e
    obtain ⟨us2, hv2, l2⟩ := hg _ _ e2
    exact ⟨_, _, _, _, rfl, rfl, hv, hv2, by rw [l1.length, l2.length]; exact hl, wr_lst hg e (l1.append l2) .non h hq⟩
  · exact h.elim
def fPop : AFM := fun x xs G Q => match x, xs with
  | .ref l, [] => ∃ ys y, G l = some (.lst ys) ∧ ys[ys.length - 1]? = some y ∧ Q y (gset G l (.lst ys.dropLast))
  | _, _ => False
theorem RepL.dropLast {K : PySem.W.Frag} {H : Hp} {xs : List AV} {vs : List V} (r : RepL K H xs vs) : RepL K H xs.dropLast vs.dropLast := by
  rw [List.dropLast_eq_take, List.dropLast_eq_take, r.length]
  exact r.take _
theorem lf_pop {K : PySem.W.Frag} : LiftM K rPop fPop := by
  intro x v xs vs G H Q0 Q rx rs hg h hq
  unfold fPop at h
  split at h
  · cases rx
    cases rs
    obtain ⟨ys, y, e, hy, h⟩ := h
    obtain ⟨us, hv, l1⟩ := hg _ _ e
    obtain ⟨u, hu, ru⟩ := l1.get hy
    exact ⟨_, _, u, rfl, rfl, hv, by rw [l1.length]; exact hu, wr_lst hg e l1.dropLast ru h hq⟩
  · exact h.elim
def fSetL : ASet := fun o i x G Q => match o, i with
  | .ref p, .int k => ∃ xs j, G p = some (.lst xs) ∧ ixN xs.length k = some j ∧ Q (gset G p (.lst (xs.set j x)))
  | _, _ => False
theorem lf_setL {K : PySem.W.Frag} : LiftSet K rSetL fSetL := by
  intro o i x v1 v2 v3 G H Q0 Q r1 r2 r3 hg h hq
  unfold fSetL at h
  split at h
  · cases r1; cases r2
    obtain ⟨xs, j, e, hj, h⟩ := h
    obtain ⟨us, hv, l1⟩ := hg _ _ e
    obtain ⟨e1, g1⟩ := ext_write (o := .lst (us.set j v3)) (g := .lst (xs.set j x)) hg e fun k => ⟨_, upd_same, (l1.set r3 j).up k⟩
    exact ⟨_, us, _, j, rfl, rfl, hv, by rw [l1.length]; exact hj, hq _ _ h e1 g1⟩
  · exact h.elim
def fJoin : AFM := fun x xs G Q => match x, xs with
  | .str a, [.ref p] => ∃ ys : List Str, G p = some (.lst (ys.map AV.str)) ∧ (ys.map (·.length)).sum + ys.length * a.length ≤ 16777216 ∧ Q (.str (Txt.join a ys)) G
  | _, _ => False
theorem lf_join {K : PySem.W.Frag} : LiftM K (fun x xs H Q => ∃ a p, ∃ ys : List Str, x = .str a ∧ xs = [.ref p] ∧ (SqL K H p (ys.map V.str) ∨ SqT K H p (ys.map V.str)) ∧
    (ys.map (·.length)).sum + ys.length * a.length ≤ 16777216 ∧ Q (.str (Txt.join a ys)) H) fJoin := by
  intro x v xs vs G H Q0 Q rx rs hg h hq
  unfold fJoin at h
  split at h
  · cases rx
    obtain ⟨w, rfl, rw'⟩ := rs.one
    cases rw'
    obtain ⟨ys, e, hl, h⟩ := h
    obtain ⟨us, hv, l1⟩ := hg _ _ e
    have := l1.strs
    subst this
    exact ⟨_, _, ys, rfl, rfl, .inl (SqL.of hv), hl, hq _ _ _ _ h .refl hg (.str _)⟩
  · exact h.elim
section
variable {X : Cx} {W : WW} {a b e : Expr} {es : List Expr} {t : ATA} {ta tb : AT} {p pos apos cpos : Pos} {k : Nat}
theorem ae_len (hm : X.mg "len" = none) (ha : AArgs X W (e :: es) t) (hg : Gl X "len" := by rfl) (he : starEach (e :: es) X.env = (false, eval e X.env) :: starEach es X.env := by rfl) (hpl : (backTo pos (starEach es X.env)).any (·.1) = false := by rfl) : AE X W (.Call (.Name "len" p) (e :: es) [] pos) (aCallB fLen t) :=
  ae_callB call_lenA lf_len hm PySem.boot_len ha hg (by decide) (by decide) he hpl
theorem ae_isi (hm : X.mg "isinstance" = none) (ha : AArgs X W (e :: es) t) (hg : Gl X "isinstance" := by rfl) (he : starEach (e :: es) X.env = (false, eval e X.env) :: starEach es X.env := by rfl) (hpl : (backTo pos (starEach es X.env)).any (·.1) = false := by rfl) : AE X W (.Call (.Name "isinstance" p) (e :: es) [] pos) (aCallB fIsi t) :=
  ae_callB call_isi lf_isi hm (by decide +kernel) ha hg (by decide) (by decide) he hpl
theorem ae_abs (hm : X.mg "abs" = none) (ha : AArgs X W (e :: es) t) (hg : Gl X "abs" := by rfl) (he : starEach (e :: es) X.env = (false, eval e X.env) :: starEach es X.env := by rfl) (hpl : (backTo pos (starEach es X.env)).any (·.1) = false := by rfl) : AE X W (.Call (.Name "abs" p) (e :: es) [] pos) (aCallB fAbs t) :=
  ae_callB call_abs lf_abs hm (by decide +kernel) ha hg (by decide) (by decide) he hpl
theorem ae_max2 (hm : X.mg "max" = none) (hc : X.calm = true) (ha : AArgs X W (e :: es) t) (hg : Gl X "max" := by rfl) (he : starEach (e :: es) X.env = (false, eval e X.env) :: starEach es X.env := by rfl) (hpl : (backTo pos (starEach es X.env)).any (·.1) = false := by rfl) : AE X W (.Call (.Name "max" p) (e :: es) [] pos) (aCallB fMax2 t) :=
  ae_callB (call_max2 hc) lf_max2 hm (by decide +kernel) ha hg (by decide) (by decide) he hpl
theorem ae_min2 (hm : X.mg "min" = none) (hc : X.calm = true) (ha : AArgs X W (e :: es) t) (hg : Gl X "min" := by rfl) (he : starEach (e :: es) X.env = (false, eval e X.env) :: starEach es X.env := by rfl) (hpl : (backTo pos (starEach es X.env)).any (·.1) = false := by rfl) : AE X W (.Call (.Name "min" p) (e :: es) [] pos) (aCallB fMin2 t) :=
  ae_callB (call_min2 hc) lf_min2 hm (by decide +kernel) ha hg (by decide) (by decide) he hpl
theorem ae_int1 (hm : X.mg "int" = none) (ha : AArgs X W (e :: es) t) (hg : Gl X "int" := by rfl) (he : starEach (e :: es) X.env = (false, eval e X.env) :: starEach es X.env := by rfl) (hpl : (backTo pos (starEach es X.env)).any (·.1) = false := by rfl) : AE X W (.Call (.Name "int" p) (e :: es) [] pos) (aCallB fInt t) :=
  ae_callTy call_int1 lf_int hm (by decide +kernel) ha hg (by decide) (by decide) he hpl
theorem ae_list1 (hm : X.mg "list" = none) (ha : AArgs X W (e :: es) t) (hg : Gl X "list" := by rfl) (he : starEach (e :: es) X.env = (false, eval e X.env) :: starEach es X.env := by rfl) (hpl : (backTo pos (starEach es X.env)).any (·.1) = false := by rfl) : AE X W (.Call (.Name "list" p) (e :: es) [] pos) (aCallB fList t) :=
  ae_callTy call_list_of lf_list hm (by decide +kernel) ha hg (by decide) (by decide) he hpl
theorem ae_tuple1 (hm : X.mg "tuple" = none) (ha : AArgs X W (e :: es) t) (hg : Gl X "tuple" := by rfl) (he : starEach (e :: es) X.env = (false, eval e X.env) :: starEach es X.env := by rfl) (hpl : (backTo pos (starEach es X.env)).any (·.1) = false := by rfl) : AE X W (.Call (.Name "tuple" p) (e :: es) [] pos) (aCallB fTuple t) :=
  ae_callTy call_tuple_of lf_tuple hm (by decide +kernel) ha hg (by decide) (by decide) he hpl
theorem ae_sum (hm : X.mg "sum" = none) (hc : X.calm = true) (ha : AArgs X W (e :: es) t) (hg : Gl X "sum" := by rfl) (he : starEach (e :: es) X.env = (false, eval e X.env) :: starEach es X.env := by rfl) (hpl : (backTo pos (starEach es X.env)).any (·.1) = false := by rfl) : AE X W (.Call (.Name "sum" p) (e :: es) [] pos) (aCallB fSum t) :=
  ae_callB (cr_sum hc) lf_sum hm (by decide +kernel) ha hg (by decide) (by decide) he hpl
theorem ae_all (hm : X.mg "all" = none) (hc : X.calm = true) (ha : AArgs X W (e :: es) t) (hg : Gl X "all" := by rfl) (he : starEach (e :: es) X.env = (false, eval e X.env) :: starEach es X.env := by rfl) (hpl : (backTo pos (starEach es X.env)).any (·.1) = false := by rfl) : AE X W (.Call (.Name "all" p) (e :: es) [] pos) (aCallB fAll t) :=
  ae_callB (cr_all hc) lf_all hm (by decide +kernel) ha hg (by decide) (by decide) he hpl
theorem ae_append {o : Expr} {to : AT} (ho : AE X W o to) (ha : AArgs X W (e :: es) t)
    (hbase : attributeBase o "append" X.env (eval o X.env) = eval o X.env := by rfl)
    (hfew : ((backTo cpos (starEach (e :: es) X.env)).all (fun x => !x.1) && (backToKw cpos (keywordEach [] X.env)).all (fun x => x.1.isSome)
      && decide ((e :: es).length + ([] : List Keyword).length + (if ([] : List Keyword).isEmpty then 0 else 1) < 30)) = true := by rfl)
    (hline : (apos.endLine == cpos.line) = true := by rfl) (hs : starEach (e :: es) X.env = (false, eval e X.env) :: starEach es X.env := by rfl) (hplain : (backTo cpos (starEach es X.env)).any (·.1) = false := by rfl) :
    AE X W (.Call (.Attribute o "append" apos) (e :: es) [] cpos) (aBM "list" fAppend to t) :=
  ae_bm PySem.F.plainAttrs_list PySem.F.slot_list_append PySem.F.type_list_append mt_append lf_append ho ha hbase hfew hline hs hplain
theorem ae_extend {o : Expr} {to : AT} (ho : AE X W o to) (ha : AArgs X W (e :: es) t)
    (hbase : attributeBase o "extend" X.env (eval o X.env) = eval o X.env := by rfl)
    (hfew : ((backTo cpos (starEach (e :: es) X.env)).all (fun x => !x.1) && (backToKw cpos (keywordEach [] X.env)).all (fun x => x.1.isSome)
      && decide ((e :: es).length + ([] : List Keyword).length + (if ([] : List Keyword).isEmpty then 0 else 1) < 30)) = true := by rfl)
    (hline : (apos.endLine == cpos.line) = true := by rfl) (hs : starEach (e :: es) X.env = (false, eval e X.env) :: starEach es X.env := by rfl) (hplain : (backTo cpos (starEach es X.env)).any (·.1) = false := by rfl) :
    AE X W (.Call (.Attribute o "extend" apos) (e :: es) [] cpos) (aBM "list" fExtend to t) :=
  ae_bm PySem.F.plainAttrs_list PySem.F.slot_list_extend PySem.F.type_list_extend mt_extend lf_extend ho ha hbase hfew hline hs hplain
theorem ae_join {o : Expr} {to : AT} (ho : AE X W o to) (ha : AArgs X W (e :: es) t)
    (hbase : attributeBase o "join" X.env (eval o X.env) = eval o X.env := by rfl)
    (hfew : ((backTo cpos (starEach (e :: es) X.env)).all (fun x => !x.1) && (backToKw cpos (keywordEach [] X.env)).all (fun x => x.1.isSome)
      && decide ((e :: es).length + ([] : List Keyword).length + (if ([] : List Keyword).isEmpty then 0 else 1) < 30)) = true := by rfl)
    (hline : (apos.endLine == cpos.line) = true := by rfl) (hs : starEach (e :: es) X.env = (false, eval e X.env) :: starEach es X.env := by rfl) (hplain : (backTo cpos (starEach es X.env)).any (·.1) = false := by rfl) :
    AE X W (.Call (.Attribute o "join" apos) (e :: es) [] cpos) (aBM "str" fJoin to t) :=
  ae_bm PySem.F.plainAttrs_str PySem.F.slot_str_join PySem.F.type_str_join mt_join lf_join ho ha hbase hfew hline hs hplain
theorem ae_pop0 {o : Expr} {to : AT} (ho : AE X W o to)
    (hbase : attributeBase o "pop" X.env (eval o X.env) = eval o X.env := by rfl) (hline : (apos.endLine == cpos.line) = true := by rfl) :
    AE X W (.Call (.Attribute o "pop" apos) [] [] cpos) (aBM "list" fPop to aNil) :=
  ae_bm0 PySem.F.plainAttrs_list PySem.F.slot_list_pop PySem.F.type_list_pop mt_pop lf_pop ho hbase hline
theorem ag_setL {o i : Expr} {to ti : AT} (ho : AE X W o to) (hi : AE X W i ti)
    (ha : ∀ v, assign (.Subscript o i pos) X.env v = (do
      let ov ← holding [v] (eval o X.env)
      let iv ← holding [v, ov] (eval i X.env)
      standAt pos
      holding [v, ov, iv] (setItem ov iv v)
      release [v, ov, iv] []) := by intro _; rfl) : AG X W (.Subscript o i pos) (agSub to ti fSetL) := ag_sub ho hi set_list lf_setL ha
end
end Rw
section
set_option maxHeartbeats 1000000
/-! list(reversed(a list or a tuple)) -/
namespace Rw
open PySem PySem.Spec PyProof.Rows L2 RT
section
variable {prog : Program} {w : World} {A : Around} {s : Shared} {R : Result → Shared → Prop}
variable {I : Addr} {fp wr : List Addr} {n : Nat} {P : Nat → Value → Prop} {St : Nat → Shared → Prop}
abbrev GEq : Array GenState → Array GenState → Prop := fun a b => b = a
theorem extend_it {T : String} {room : Bool} (W : WalksS prog w A.in1 I fp wr GEq n P St) (hT : ∀ i s, St i s → s.TypeIs (.ref I) T) (h2 : (Value.type T == Value.type "list") = false) (h3 : (Value.type T == Value.type "tuple") = false) (h4 : (["set", "frozenset", "dict", "dict_keys", "dict_values", "dict_items"].any fun x => Value.type T == Value.type x) = false)
    (hint : ∀ (s : Shared) (Q : Bool → Shared → Prop) (E : Value → Shared → Prop), St 0 s → (∀ tk, s.toks ≤ tk → Q room { s with toks := tk }) → wpAny (model prog w) A.in1 (Builtin.List.listLengthHint (.ref I)) Q E s)
    (S : Addr) (res : Value) (c₀ : Nat) (hst : St 0 s) (hSf : S ∉ fp) (hI : I ∈ fp)
    (hS : s.heap.get? S = some { cls := .type "list", data := .seq #[] c₀ })
    (hR : ∀ s' acc' c', Moved (S :: wr) GEq s s' → s'.heap.get? S = some { cls := .type "list", dict := none, data := .seq acc' c', slots := #[] } → ItemsOf P acc' n → R (.ok (.ret res)) s') (hn : n ≤ sizeLine) :
    wpAny (model prog w) A.in1 (Builtin.List.listExtendWith (.ref S) (.ref I) res)
      (fun fin s' => match fin with | .done f => R (.ok f) s' | .again c' => c'.quiet = true ∧ codeAny (model prog w) A c' R s') (fun e s' => R (.error e) s') s := by
  have hSI : S ≠ I := fun e => hSf (e ▸ hI)
  unfold Builtin.List.listExtendWith
  refine wpAny_bind (wpAny_typeOf (hT 0 _ hst) ?_)
  have h1 : Builtin.List.listSameRef (.ref S) (.ref I) = false := by simp [Builtin.List.listSameRef, hSI]
  simp only [h1, h2, h3, Bool.or_false, Bool.false_eq_true, if_false]
  refine wpAny_bind (W.self 0 _ _ _ hst ?_)
  refine wpAny_bind (wpAny_holding (hint _ _ _ hst fun tk htk => ?_))
  have hst2 : St 0 { s with toks := tk } := W.frame 0 s s.heap tk hst htk fun _ _ _ e => e
  have m0 : Moved (S :: wr) GEq s { s with toks := tk } := ⟨fun _ _ _ e => e, W.grefl _, rfl, rfl, htk⟩
  cases room with
  | false =>
    show wpAny _ A.in1 (if (false || (["set", "frozenset", "dict", "dict_keys", "dict_values", "dict_items"].any fun x => Value.type T == Value.type x)) = true then _ else _) _ _ _
    rw [h4]
    refine wpAny_pure ⟨plainId_quiet F.plain_extend_loop _, codeAny_extend_loopS W hn _ hSf _ n 0 _ _ _ rfl (Nat.zero_le _) hst2 hS (ItemsOf.nil P) fun s' acc' c' hm hS' hacc => ?_⟩
    exact hR s' acc' c' (Moved.trans W.gtrans m0 hm) hS' hacc
  | true =>
    show wpAny _ A.in1 (rule "list.extend.makes-room" >>= fun _ => Builtin.List.listTouch (.ref S) >>= fun _ =>
      again (.builtin "list.extend.loop" ⟨[.ref S, .ref I, res], []⟩)) _ _ _
    refine wpAny_bind (wpAny_rule ?_)
    refine wpAny_bind ?_
    show wpAny _ A.in1 (updateSeq S (·.push .none) >>= fun _ => updateSeq S (·.pop)) _ _ _
    refine wpAny_bind (wpAny_updateSeq (s := { s with toks := tk }) hS rfl ?_)
    have hS₂ := Heap.get?_update_self (Obj.mapSeq (·.push Value.none)) hS rfl
    refine wpAny_updateSeq (hz := by seq_fits) hS₂ rfl ?_
    have hS₃ := Heap.get?_update_self (Obj.mapSeq (·.pop)) hS₂ rfl
    have oth : ∀ b o, b ≠ S → s.heap.get? b = some o → ((s.heap.update S (Obj.mapSeq (·.push Value.none))).update S (Obj.mapSeq (·.pop))).get? b = some o :=
      fun b o hb e => (Heap.get?_update_other _ _ (Ne.symm hb)).trans ((Heap.get?_update_other _ _ (Ne.symm hb)).trans e)
    refine wpAny_pure ⟨plainId_quiet F.plain_extend_loop _, codeAny_extend_loopS W hn _ hSf _ n 0 _ _ _ rfl (Nat.zero_le _)
      (W.frame 0 { s with toks := tk } _ tk hst2 (Nat.le_refl _) fun b hb o e => oth b o (fun h => hSf (h ▸ hb)) e) hS₃ (ItemsOf.nil P) fun s' acc' c' hm hS' hacc => ?_⟩
    exact hR s' acc' c' (Moved.trans W.gtrans (m0.then_heap (Nat.le_refl _) fun b o hb e => oth b o (fun h => hb (h ▸ List.mem_cons_self)) e) hm) hS' hacc
end
section
variable {prog : Program} {w : World} {A : Around} {E : Value → Shared → Prop} {s : Shared}
variable {I : Addr} {fp wr : List Addr} {n : Nat} {P : Nat → Value → Prop} {St : Nat → Shared → Prop}
theorem call_list_it {T : String} {room : Bool} {Q : Value → Shared → Prop} (W : WalksS prog w A.in1.in1 I fp wr GEq n P St) (hT : ∀ i s, St i s → s.TypeIs (.ref I) T) (h2 : (Value.type T == Value.type "list") = false) (h3 : (Value.type T == Value.type "tuple") = false) (h4 : (["set", "frozenset", "dict", "dict_keys", "dict_values", "dict_items"].any fun x => Value.type T == Value.type x) = false)
    (hint : ∀ (s : Shared) (Q : Bool → Shared → Prop) (E : Value → Shared → Prop), St 0 s → (∀ tk, s.toks ≤ tk → Q room { s with toks := tk }) → wpAny (model prog w) A.in1.in1 (Builtin.List.listLengthHint (.ref I)) Q E s)
    (hst : St 0 s) (hfp : ∀ b ∈ fp, b < s.heap.objs.size) (hI : I ∈ fp)
    (hQ : ∀ s' acc' c', (∀ b o, b ∉ wr → s.heap.get? b = some o → s'.heap.get? b = some o) → s'.gens = s.gens → s'.drawn = s.drawn → s'.os = s.os →
      s'.heap.get? s.heap.objs.size = some { cls := .type "list", dict := none, data := .seq acc' c', slots := #[] } → ItemsOf P acc' n → Q (.ref s.heap.objs.size) s') (hn : n ≤ sizeLine) :
    wpAny (model prog w) A (call (.type "list") [.ref I]) Q E s := by
  have hSf : s.heap.objs.size ∉ fp := fun hm => Nat.lt_irrefl _ (hfp _ hm)
  refine callType_codes (Q₁ := fun obj s₁ => obj = .ref s.heap.objs.size ∧ s₁ = { s with heap := s.heap.push { cls := .type "list", data := .seq #[] } }) F.called_list (F.typeCall_list_1 _) F.entry_list_init
    (code_list_new _ ⟨rfl, rfl⟩) fun obj s₁ h₁ => ?_
  obtain ⟨rfl, rfl⟩ := h₁
  have hS : (s.heap.push { cls := .type "list", data := .seq #[] }).get? s.heap.objs.size = some { cls := .type "list", data := .seq #[] } := Heap.get?_push_size _ rfl
  refine ⟨⟨_, hS, rfl⟩, F.args_list_init_2 _ _, ?_⟩
  show wpAny _ A.in1.in1 (do let old ← Builtin.List.listItems (.ref s.heap.objs.size); Builtin.List.listUpdate (.ref s.heap.objs.size) (fun _ => #[]); letGo old.toList.reverse; Builtin.List.listExtendWith (.ref s.heap.objs.size) (.ref I) .none) _ _ _
  refine wpAny_bind ?_
  unfold Builtin.List.listItems
  refine wpAny_bind (wpAny_seqItems hS rfl (wpAny_pure ?_))
  show wpAny _ A.in1.in1 (updateSeq s.heap.objs.size (fun _ => #[]) >>= fun _ => letGo (#[] : Array Value).toList.reverse >>= fun _ => Builtin.List.listExtendWith (.ref s.heap.objs.size) (.ref I) .none) _ _ _
  refine wpAny_bind (wpAny_updateSeq hS rfl ?_)
  have hS₂ := Heap.get?_update_self (Obj.mapSeq (fun _ => (#[] : Array Value))) hS rfl
  have oth : ∀ b o, s.heap.get? b = some o → ((s.heap.push { cls := .type "list", data := .seq #[] }).update s.heap.objs.size (Obj.mapSeq (fun _ => (#[] : Array Value)))).get? b = some o :=
    fun b o e => (Heap.get?_update_other _ _ (Ne.symm (Nat.ne_of_lt (Heap.lt_size e)))).trans (Heap.get?_push_of_some _ e)
  refine wpAny_bind (wpAny_letGo ?_)
  refine extend_it W hT h2 h3 h4 hint _ .none _ (W.frame 0 s _ s.toks hst (Nat.le_refl _) fun b hb o e => oth b o e) hSf hI hS₂ (fun s' acc' c' hm hS' hacc => ?_) hn
  exact ⟨rfl, hQ s' acc' c' (fun b o hb e => hm.heap b o (fun h => (List.mem_cons.mp h).elim (fun h => absurd (Heap.lt_size e) (by rw [h]; exact Nat.lt_irrefl _)) hb) (oth b o e)) hm.gens hm.drawn hm.os hS' hacc⟩
/-- the iterator of a list, from its end -/
theorem hint_lri' {it l : Addr} {i : Int} (h : s.heap.IsRevIter it l i) {Q : Bool → Shared → Prop} (hQ : ∀ tk, s.toks ≤ tk → Q false { s with toks := tk }) : wpAny (model prog w) A (Builtin.List.listLengthHint (.ref it)) Q E s := by
  have hT : s.TypeIs (.ref it) "list_reverseiterator" := h.typeIs
  unfold Builtin.List.listLengthHint
  refine wpAny_bind (wpAny_specialOf hT nolen_lri ?_)
  show wpAny _ A (specialOf (Value.ref it) (Str.ofString "__length_hint__") >>= _) _ _ _
  refine wpAny_bind (wpAny_specialOf hT hint_lri ?_)
  generalize hid : ("list_reverseiterator.__length_hint__" : String) = id0
  wp_delta
  rw [show splitId id0 = some ("list_reverseiterator", "__length_hint__") from by subst hid; decide +kernel]
  subst hid
  refine wpAny_bind (wpAny_isInstance (b := true) hT (by rw [isSubtype_type]; kernel_rfl) ?_)
  refine wpAny_pure ?_
  exact hQ _ (Nat.le_refl _)
theorem nolen_rt : typeLookup (.type "reversed") "__len__" = pure none := by rw [typeLookup_type, builtinLookup_eq_fast]; kernel_rfl
theorem slot_rt_hint : Slot "reversed" "__length_hint__" "reversed.__length_hint__" :=
  .of (owner := "reversed") (n := "__length_hint__") (by rw [typeLookup_type, builtinLookup_eq_fast]; kernel_rfl) (by decide +kernel) (by decide +kernel) (by decide +kernel)
    (by first | exact .inl (by decide +kernel) | exact .inr (by decide +kernel)) (by rw [isSubtype_type]; kernel_rfl)
theorem entry_rt_hint : entryFor table "reversed.__length_hint__" = some Builtin.«reversed.__length_hint__» := entryFor_of_tree (by kernel_rfl)
theorem args_rt_hint (a : Value) : argsOk "reversed.__length_hint__" ⟨[a], []⟩ := by
  unfold argsOk; rw [signature?_of (id := "reversed.__length_hint__") (n := ['_', '_', 't', 'n', 'i', 'h', '_', 'h', 't', 'g', 'n', 'e', 'l', '_', '_']) (o := ['d', 'e', 's', 'r', 'e', 'v', 'e', 'r']) (by kernel_rfl) owner_rt]; kernel_rfl
theorem hint_rt {it t : Addr} {items : Array Value} (hit : IsRt s.heap it t ((items.size : Int) - 1)) (ht : IsTup s.heap t items) (hn : items.size ≤ sizeLine) {Q : Bool → Shared → Prop} (hQ : ∀ tk, s.toks ≤ tk → Q (decide (((items.size : Nat) : Int) ≠ 0)) { s with toks := tk }) : wpAny (model prog w) A (Builtin.List.listLengthHint (.ref it)) Q E s := by
  have hT : s.TypeIs (.ref it) "reversed" := hit.typeIs
  have hl := line63
  unfold Builtin.List.listLengthHint
  refine wpAny_bind (wpAny_specialOf hT nolen_rt ?_)
  show wpAny _ A (specialOf (Value.ref it) (Str.ofString "__length_hint__") >>= _) _ _ _
  refine wpAny_bind (wpAny_specialOf hT slot_rt_hint.lookup ?_)
  generalize hid : ("reversed.__length_hint__" : String) = id0
  wp_delta
  rw [show splitId id0 = some ("reversed", "__length_hint__") from by subst hid; decide +kernel]
  subst hid
  refine wpAny_bind (wpAny_isInstance (b := true) hT (by rw [isSubtype_type]; kernel_rfl) ?_)
  try dsimp only
  refine wpAny_bind (wpAny_rule ?_)
  refine wpAny_bind (wpAny_of_eq (slot_rt_hint.bind _) ?_)
  try dsimp only
  refine wpAny_bind (wpAny_attempt (wpAny_call_entry slot_rt_hint hT entry_rt_hint ?_ (args_rt_hint _)))
  unfold Builtin.«reversed.__length_hint__»
  obtain ⟨o, ho, hc, hd⟩ := id hit
  refine wpAny_bind (wpAny_of_eq (a := Value.ref it) rfl ?_)
  refine wpAny_bind (wpAny_field ho hd (x := .ref t) rfl ?_)
  rw [if_neg (show ¬ ((Value.ref t == Value.none) = true) from Bool.false_ne_true)]
  refine wpAny_bind (len_tuple ht (by omega) ?_)
  refine wpAny_bind (wpAny_of_eq (a := some ((items.size : Nat) : Int)) rfl ?_)
  try dsimp only
  refine wpAny_bind (wpAny_field (s := { s with toks := s.toks + 1 + 1 }) ho hd (x := rawInt ((items.size : Int) - 1)) rfl ?_)
  show wpAny _ _ (if ((items.size : Nat) : Int) < (items.size : Int) - 1 + 1 then _ else _) _ _ _
  rw [if_neg (by omega)]
  have e1 : (items.size : Int) - 1 + 1 = ((items.size : Nat) : Int) := by omega
  rw [e1]
  show wpAny _ _ (mkInt _ >>= fun v => ret v) _ _ _
  refine wpAny_bind (wpAny_mkInt (wpAny_pure ⟨_, rfl, ?_⟩))
  try dsimp only
  have ha : ∀ tk, asInt? (Value.int ((items.size : Nat) : Int) tk) = pure (some ((items.size : Nat) : Int)) := fun _ => rfl
  rw [ha]
  have hq := hQ (s.toks + 1 + 1 + 1) (by omega)
  generalize ({ s with toks := s.toks + 1 + 1 + 1 } : Shared) = s9 at hq ⊢
  refine wpAny_bind ?_
  refine wpAny_pure ?_
  try dsimp only
  have f1 : Builtin.List.listFitsIndex ((items.size : Nat) : Int) = true := by unfold Builtin.List.listFitsIndex; simp only [Bool.and_eq_true, decide_eq_true_eq]; omega
  have f2 : Builtin.List.listTooLong ((items.size : Nat) : Int).toNat = false := by unfold Builtin.List.listTooLong; simp only [Int.toNat_natCast, decide_eq_false_iff_not]; omega
  rw [if_neg (by rw [f1]; decide), if_neg (by omega), if_neg (by rw [f2]; decide)]
  refine wpAny_pure ?_
  have e2 : (((items.size : Nat) : Int) != 0) = decide (((items.size : Nat) : Int) ≠ 0) := by
    by_cases h : ((items.size : Nat) : Int) = 0
    · rw [h]; rfl
    · rw [decide_eq_true h]; exact bne_iff_ne.mpr h
  rw [e2]
  exact hq
/-- the walk of reversed(a tuple) -/
theorem walks_rt (hh : A.handled = none) (I t : Addr) (hne : t ≠ I) (items : Array Value) (hz : items.size ≤ sizeLine) :
    WalksS prog w A I [I, t] [I] GEq items.size (fun i v => items[items.size - 1 - i]? = some v) (fun i s => i ≤ items.size ∧ IsRt s.heap I t ((items.size : Int) - 1 - (i : Int)) ∧ IsTup s.heap t items) where
  sub := fun b hb => by simp at hb; simp [hb]
  grefl := fun _ => rfl
  gtrans := fun _ _ _ h1 h2 => h2.trans h1
  frame := fun _ _ _ _ x _ hk => ⟨x.1, x.2.1.at fun o e => hk I (by simp) o e, by
    obtain ⟨o, e, r⟩ := x.2.2
    exact ⟨o, hk t (by simp) o e, r⟩⟩
  item := fun i s Q E hi x hQ => by
    have e : (items.size : Int) - 1 - (i : Int) = ((items.size - 1 - i : Nat) : Int) := by omega
    have hit := x.2.1
    rw [e] at hit
    have hx : items[items.size - 1 - i]? = some (items[items.size - 1 - i]'(by omega)) := Array.getElem?_eq_getElem (by omega)
    refine next_rt_item hit x.2.2 hx hz fun h' hit' hs' => ?_
    have e2 : ((items.size - 1 - i : Nat) : Int) - 1 = (items.size : Int) - 1 - ((i + 1 : Nat) : Int) := by omega
    rw [e2] at hit'
    refine hQ _ _ hx ⟨hi, hit', ?_⟩ ⟨fun b o hb eo => (hs'.2 b (fun h => hb (by simp [h]))).trans eo, rfl, rfl, rfl, Nat.le_succ _⟩
    obtain ⟨o, e, r⟩ := x.2.2
    exact ⟨o, (hs'.2 t hne).trans e, r⟩
  done := fun s Q E x hQ => by
    have e : (items.size : Int) - 1 - (items.size : Int) = -1 := by omega
    have hit := x.2.1
    rw [e] at hit
    exact next_rt_end hh hit fun h' he' => hQ _ ⟨fun b o hb eo => he' b o (fun h => hb (by simp [h])) eo, rfl, rfl, rfl, Nat.le_refl _⟩
  self := fun _ _ _ _ x hQ => iter_rt x.2.1 hQ
end
/-- list(reversed(x)) -/
def tListRev (K : PySem.W.Frag) (te : TE) : TE := fun σ H Q => te σ H fun v H1 => ∃ (a : Addr) (xs : List V), v = .ref a ∧ (SqL K H1 a xs ∨ SqT K H1 a xs) ∧ ∀ q, H1 q = none → Q (.ref q) (upd H1 q (.lst xs.reverse))
section
variable {X : Cx}
theorem pe_listRev {e : Expr} {te : TE} {p p2 pos pos2 : Pos} (hc : X.calm = true) (hg : Gl X "list") (hm : X.mg "list" = none) (hg2 : Gl X "reversed") (hm2 : X.mg "reversed" = none) (he : PE X e te)
    (hs : starEach [e] X.env = (false, eval e X.env) :: starEach [] X.env := by rfl)
    (hs2 : starEach [.Call (.Name "reversed" p2) [e] [] pos2] X.env = (false, eval (.Call (.Name "reversed" p2) [e] [] pos2) X.env) :: starEach [] X.env := by rfl) :
    PE X (.Call (.Name "list" p) [.Call (.Name "reversed" p2) [e] [] pos2] [] pos) (tListRev X.K te) := by
  refine ⟨fun pins s σ H Q I h => ?_⟩
  refine Call_ (ld_blt I hg hm boot_list (PyProof.Rows.callWith_type1 (args_cons (Call_ (ld_blt I hg2 hm2 PyProof.Rows.boot_reversed (PyProof.Rows.callWith_type1 (args_cons (thn (he.run pins s σ H _ I h) fun u s1 ⟨v, H1, I1, r1, q1⟩ => args_nil ?_) hs) hs rfl))) hs2) hs2 rfl))
  obtain ⟨a, xs, ev, hq, q⟩ := q1
  subst ev
  obtain rfl : u = Value.ref a := r1
  have fin : ∀ {its : List Value} {k : Nat} (ob : Obj), Vals xs its → xs.length ≤ sizeLine → 
      ∀ (s' : Shared) (acc' : Array Value) (c' : Nat), (∀ b o, b ≠ s1.heap.objs.size → (s1.heap.push ob).get? b = some o → s'.heap.get? b = some o) → s'.gens = s1.gens → s'.drawn = s1.drawn → s'.os = s1.os →
        s'.heap.get? (s1.heap.push ob).objs.size = some { cls := .type "list", dict := none, data := .seq acc' c', slots := #[] } → ItemsOf (fun i v => its.toArray[its.toArray.size - 1 - i]? = some v) acc' its.toArray.size → EP X pins σ Q (.ref (s1.heap.push ob).objs.size) s' := by
    intro its k ob rv hz s' acc' c' kp g1 g2 g3 hS hi
    have I2 : Inv X pins σ H1 { s1 with heap := s1.heap.push ob } := I1.kept (t' := s1.toks) fun b o e => Heap.get?_push_of_some _ e
    have f : FpOk X pins H1 s1.heap.objs.size := I1.fpOk (H' := H1) (b := s1.heap.objs.size) (Nat.le_refl _) (I1.hok.fresh (Nat.le_refl _))
    have hT : (s1.heap.push ob).objs.size ≤ (s1.heap.push ob).objs.size := Nat.le_refl _
    have I3 := I2.turnedNew (h' := s'.heap) (t' := s'.toks) (ch := [s1.heap.objs.size]) (T := (s1.heap.push ob).objs.size) (ob := .lst xs.reverse) (fun b o hb e => kp b o (by simpa using hb) e) (fun b hb => (List.mem_singleton.mp hb) ▸ f) hT
      ⟨by rw [List.length_reverse]; exact hz, acc'.toList, c', vals_rev rv hi, by rw [Array.toArray_toList]; exact hS⟩
    have es : ({ s1 with heap := s'.heap, toks := s'.toks } : Shared) = s' := by
      cases s'; cases s1
      simp only at g1 g2 g3
      subst g1 g2 g3
      rfl
    refine ⟨.ref (s1.heap.push ob).objs.size, _, ?_, rfl, q _ (I2.hok.fresh hT)⟩
    rw [← es]
    exact I3
  rcases hq with hq | hq
  · obtain ⟨its, rv, p', hz⟩ := I1.list hq
    refine call_reversed_list p'.isList (args_nil ?_)
    have hl := p'.isList
    obtain ⟨ol, hol, _⟩ := id hl
    have hne : a ≠ s1.heap.objs.size := Nat.ne_of_lt (Heap.lt_size hol)
    have hn : its.toArray.size ≤ sizeLine := by rw [List.size_toArray, ← rv.length]; exact hz
    have W := (Walks.listRev (prog := X.prog) (w := X.w) (A := X.A.in1.in1) (I1.ok.hd hc) s1.heap.objs.size a hne its.toArray).toS
    have e0 : (its.toArray.size : Int) - 1 - ((0 : Nat) : Int) = (its.toArray.size : Int) - 1 := by omega
    refine call_list_it (s := { s1 with heap := s1.heap.push (revObj a ((its.toArray.size : Int) - 1)) }) (T := "list_reverseiterator") (room := false) W (fun i s x => Heap.IsRevIter.typeIs (s := s) x.2.1) (by decide) (by decide) (by decide) (fun s Q E x hq => hint_lri' (s := s) x.2.1 hq) ⟨Nat.zero_le _, ?_, hl.push _⟩ ?_ (by simp) ?_ hn
    · rw [e0]; exact ⟨_, Heap.get?_push_size _ rfl, rfl, rfl⟩
    · intro b hb
      rw [Heap.size_push]
      rcases List.mem_cons.mp hb with rfl | hb
      · exact Nat.lt_succ_self _
      · have := List.mem_singleton.mp hb; subst this; exact Nat.lt_succ_of_lt (Heap.lt_size hol)
    · intro s' acc' c' k g1 g2 g3 hS hi
      exact fin (k := 0) _ rv hz s' acc' c' (fun b o hb e => k b o (by simpa using hb) e) g1 g2 g3 hS hi
  · obtain ⟨its, rv, p', hz⟩ := I1.tuple hq
    have hlen := line63
    have hl := rv.length
    obtain ⟨ol, hol, hl2⟩ := id p'
    have hne : a ≠ s1.heap.objs.size := Nat.ne_of_lt (Heap.lt_size hol)
    have hn : its.toArray.size ≤ sizeLine := by rw [List.size_toArray, ← rv.length]; exact hz
    refine call_reversed_tup p' (fun A E Q k => len_tuple p' (by simp only [List.size_toArray] <;> omega) k) (args_nil ?_)
    have I1' : Inv X pins σ H1 { s1 with toks := s1.toks + 1 + 1 } := I1.tok _
    have hr : IsRt (s1.heap.push (rtObj a ((its.toArray.size : Int) - 1))) s1.heap.objs.size a ((its.toArray.size : Int) - 1) := ⟨_, Heap.get?_push_size _ rfl, rfl, rfl⟩
    have ht : IsTup (s1.heap.push (rtObj a ((its.toArray.size : Int) - 1))) a its.toArray := ⟨ol, Heap.get?_push_of_some _ hol, hl2⟩
    have W := walks_rt (prog := X.prog) (w := X.w) (A := X.A.in1.in1) (I1.ok.hd hc) s1.heap.objs.size a hne its.toArray hn
    have e0 : (its.toArray.size : Int) - 1 - ((0 : Nat) : Int) = (its.toArray.size : Int) - 1 := by omega
    refine call_list_it (s := { s1 with heap := s1.heap.push (rtObj a ((its.toArray.size : Int) - 1)), toks := s1.toks + 1 + 1 }) (T := "reversed") (room := decide (((its.toArray.size : Nat) : Int) ≠ 0)) W (fun i s x => IsRt.typeIs x.2.1) (by decide) (by decide) (by decide) (fun s Q E x hq => hint_rt (s := s) (by rw [← e0]; exact x.2.1) x.2.2 hn hq) ⟨Nat.zero_le _, by rw [e0]; exact hr, ht⟩ ?_ (by simp) ?_ hn
    · intro b hb
      rw [Heap.size_push]
      rcases List.mem_cons.mp hb with rfl | hb
      · exact Nat.lt_succ_self _
      · have := List.mem_singleton.mp hb; subst this; exact Nat.lt_succ_of_lt (Heap.lt_size hol)
    · intro s' acc' c' k g1 g2 g3 hS hi
      exact fin (k := 0) _ rv hz s' acc' c' (fun b o hb e => k b o (by simpa using hb) e) g1 g2 g3 hS hi
end
/-! ### .. in readings -/
def fRevL (x : AV) (G1 : Gp) (Q : AK) : Prop := match x with
  | .tup xs => ∀ p G', New G1 p (.lst xs.reverse) G' → Q (.ref p) G'
  | .ref a => ∃ xs, G1 a = some (.lst xs) ∧ ∀ p G', New G1 p (.lst xs.reverse) G' → Q (.ref p) G'
  | _ => False
def aRevL (t : AT) : AT := fun ρ G Q E => t ρ G (fun x G1 => fRevL x G1 Q) E
theorem ae_listRev {X : Cx} {W : WW} {e : Expr} {te : AT} {p p2 pos pos2 : Pos} (hm : X.mg "list" = none) (hm2 : X.mg "reversed" = none) (hc : X.calm = true) (he : AE X W e te) (hg : Gl X "list" := by rfl) (hg2 : Gl X "reversed" := by rfl)
    (hs : starEach [e] X.env = (false, eval e X.env) :: starEach [] X.env := by rfl)
    (hs2 : starEach [.Call (.Name "reversed" p2) [e] [] pos2] X.env = (false, eval (.Call (.Name "reversed" p2) [e] [] pos2) X.env) :: starEach [] X.env := by rfl) :
    AE X W (.Call (.Name "list" p) [.Call (.Name "reversed" p2) [e] [] pos2] [] pos) (aRevL te) :=
  peI (pe_listRev hc hg hm hg2 hm2 he hs hs2) fun σ H Q ⟨ρ, G, Q0, E0, hs, hg, h, hq, hE⟩ => by
    refine ⟨ρ, G, _, E0, hs, hg, h, ?_, hE⟩
    intro x G1 v H1 h1 e1 g1 r1
    cases r1 with
    | tup ht hl => exact ⟨_, _, rfl, .inr (SqT.of ht), fun p hp => new_lst g1 hl.reverse h1 (hq.up e1) hp⟩
    | ref a =>
      obtain ⟨xs, e, h1⟩ := h1
      obtain ⟨vs, hv, hl⟩ := g1 _ _ e
      exact ⟨_, _, rfl, .inl (SqL.of hv), fun p hp => new_lst g1 hl.reverse h1 (hq.up e1) hp⟩
    | _ => exact False.elim h1
end Rw

end
namespace Rw
open PySem L2

theorem bt_int : bootBuiltins "int" = some (.type "int") := by decide +kernel
theorem bt_bool : bootBuiltins "bool" = some (.type "bool") := by decide +kernel
theorem bt_list : bootBuiltins "list" = some (.type "list") := by decide +kernel
theorem bt_tuple : bootBuiltins "tuple" = some (.type "tuple") := by decide +kernel
theorem bt_str : bootBuiltins "str" = some (.type "str") := by decide +kernel
theorem bt_dict : bootBuiltins "dict" = some (.type "dict") := by decide +kernel

/-! ### terms -/
inductive Tm where
  | bl (n : Int)
  | fn (f : Str) (ts : List Tm)
namespace Tm
mutual
def av : Tm → AV
  | .bl n => .int n
  | .fn f ts => .tup (.str f :: avL ts)
def avL : List Tm → List AV
  | [] => []
  | t :: ts => av t :: avL ts
end
mutual
def dat : Tm → PyData
  | .bl n => .int n
  | .fn f ts => .tuple (.str f :: datL ts)
def datL : List Tm → List PyData
  | [] => []
  | t :: ts => dat t :: datL ts
end
mutual
def size : Tm → Nat
  | .bl _ => 1
  | .fn _ ts => 1 + sizeL ts
def sizeL : List Tm → Nat
  | [] => 0
  | t :: ts => size t + sizeL ts
end
mutual
def depth : Tm → Nat
  | .bl _ => 0
  | .fn _ ts => 1 + depthL ts
def depthL : List Tm → Nat
  | [] => 0
  | t :: ts => max (depth t) (depthL ts)
end
theorem avL_map : ∀ ts : List Tm, avL ts = ts.map av
  | [] => rfl
  | t :: ts => by rw [avL, avL_map ts]; rfl
theorem datL_map : ∀ ts : List Tm, datL ts = ts.map dat
  | [] => rfl
  | t :: ts => by rw [datL, datL_map ts]; rfl
theorem avL_length (ts : List Tm) : (avL ts).length = ts.length := by rw [avL_map, List.length_map]
theorem sizeL_sum : ∀ ts : List Tm, sizeL ts = (ts.map size).sum
  | [] => rfl
  | t :: ts => by rw [sizeL, sizeL_sum ts]; rfl
theorem size_pos (t : Tm) : 1 ≤ size t := by cases t <;> rw [size] <;> omega
theorem size_le_of_mem {t : Tm} {ts : List Tm} (h : t ∈ ts) : size t ≤ sizeL ts := by
  induction ts with
  | nil => cases h
  | cons a r ih =>
    rw [sizeL]
    rcases List.mem_cons.mp h with rfl | h
    · omega
    · have := ih h; omega
theorem depth_le_of_mem {t : Tm} {ts : List Tm} (h : t ∈ ts) : depth t ≤ depthL ts := by
  induction ts with
  | nil => cases h
  | cons a r ih =>
    rw [depthL]
    rcases List.mem_cons.mp h with rfl | h
    · omega
    · have := ih h; omega
theorem length_le_sizeL (ts : List Tm) : ts.length ≤ sizeL ts := by
  induction ts with
  | nil => exact Nat.le_refl _
  | cons a r ih => rw [sizeL, List.length_cons]; have := size_pos a; omega
/-- induction over terms -/
theorem ind {P : Tm → Prop} (hb : ∀ n, P (.bl n)) (hf : ∀ f ts, (∀ t, t ∈ ts → P t) → P (.fn f ts)) : ∀ t, P t := by
  have main : ∀ n t, size t ≤ n → P t := by
    intro n
    induction n with
    | zero => intro t h; have := size_pos t; omega
    | succ n ih =>
      intro t h
      cases t with
      | bl m => exact hb m
      | fn f ts =>
        refine hf f ts fun u hu => ih u ?_
        have := size_le_of_mem hu
        rw [size] at h
        omega
  exact fun t => main (size t) t (Nat.le_refl _)
theorem depthL_le {ts : List Tm} {d : Nat} (h : ∀ t, t ∈ ts → depth t ≤ d) : depthL ts ≤ d := by
  induction ts with
  | nil => rw [depthL]; omega
  | cons a r ih =>
    rw [depthL]
    have h1 := h a List.mem_cons_self
    have h2 := ih fun t ht => h t (List.mem_cons_of_mem _ ht)
    omega
theorem depth_le_size (t : Tm) : depth t ≤ size t := by
  induction t using ind with
  | hb n => rw [depth, size]; omega
  | hf f ts ih =>
    rw [depth, size]
    have : depthL ts ≤ sizeL ts := depthL_le fun t ht => by
      have h1 := ih t ht
      have h2 := size_le_of_mem ht
      omega
    omega
end Tm
def isBl : Tm → Bool
  | .bl _ => true
  | .fn _ _ => false
end Rw
/-! the readings' equations, by the values' kinds -/
namespace Rw
open PySem L2
section
variable {G : Gp} {Q : AK} {i j : Int} {a b : Addr} {x y : AV} {xs ys : List AV} {s t : Str} {p q : Bool} {ns : List Int} {lo hi : Option Int} {P : Bool → Prop} {R : String → Prop}
theorem fIx_tup : fIx (.tup xs) (.int i) G Q = ∃ v, atI xs i = some v ∧ Q v G := rfl
theorem fIx_ro : fIx (.ro ns) (.int i) G Q = ∃ n, atI ns i = some n ∧ Q (.int n) G := rfl
theorem fIx_ref : fIx (.ref a) (.int i) G Q = ∃ xs, G a = some (.lst xs) ∧ ∃ v, atI xs i = some v ∧ Q v G := rfl
theorem fIx_str : fIx (.str s) (.int i) G Q = (s.length ≤ sizeLine ∧ ∃ c, atI s.cps.toList i = some c ∧ Q (.str ⟨#[c]⟩) G) := rfl
theorem fSl_tup : fSl (.tup xs) lo hi G Q = Q (.tup (cutA xs lo hi)) G := rfl
theorem fSl_ref : fSl (.ref a) lo hi G Q = ∃ xs, G a = some (.lst xs) ∧ ∀ p G', New G p (.lst (cutA xs lo hi)) G' → Q (.ref p) G' := rfl
theorem fSl_str : fSl (.str s) lo hi G Q = (s.length ≤ sizeLine ∧ Q (.str (cutS s lo hi)) G) := rfl
theorem fI_int {g : Int → Int → AV} : fI g (.int i) (.int j) G Q = Q (g i j) G := rfl
theorem fIC_int {C : Int → Int → Prop} {g : Int → Int → AV} : fIC C g (.int i) (.int j) G Q = (C i j ∧ Q (g i j) G) := rfl
theorem fAdd_int : fAdd (.int i) (.int j) G Q = Q (.int (i + j)) G := rfl
theorem fAdd_str : fAdd (.str s) (.str t) G Q = (s.length + t.length ≤ sizeLine ∧ Q (.str (s ++ t)) G) := rfl
theorem fAdd_tup : fAdd (.tup xs) (.tup ys) G Q = (xs.length + ys.length ≤ sizeLine ∧ Q (.tup (xs ++ ys)) G) := rfl
theorem fAdd_ref : fAdd (.ref a) (.ref b) G Q = ∃ xs ys, G a = some (.lst xs) ∧ G b = some (.lst ys) ∧ xs.length + ys.length ≤ sizeLine ∧ ∀ p G', New G p (.lst (xs ++ ys)) G' → Q (.ref p) G' := rfl
theorem fEq_int : fEq false (.int i) (.int j) G Q = Q (.bl (decide (i = j))) G := rfl
theorem fEq_str : fEq false (.str s) (.str t) G Q = Q (.bl (decide (s = t))) G := rfl
theorem fEq_bl : fEq false (.bl p) (.bl q) G Q = Q (.bl (decide (p = q))) G := rfl
theorem fNe_int : fEq true (.int i) (.int j) G Q = Q (.bl (!decide (i = j))) G := rfl
theorem fNe_str : fEq true (.str s) (.str t) G Q = Q (.bl (!decide (s = t))) G := rfl
theorem fNe_bl : fEq true (.bl p) (.bl q) G Q = Q (.bl (!decide (p = q))) G := rfl
theorem fEq_ref {neg : Bool} : fEq neg (.ref a) y G Q = fEqD neg (.ref a) y G Q := by cases y <;> rfl
theorem fEq_tup {neg : Bool} : fEq neg (.tup xs) y G Q = fEqD neg (.tup xs) y G Q := by cases y <;> rfl
theorem fEq_tup' {neg : Bool} : fEq neg (.int i) (.tup ys) G Q = fEqD neg (.int i) (.tup ys) G Q := rfl
theorem fIs_non {neg : Bool} : fIs neg .non .non G Q = Q (.bl (!neg)) G := rfl
theorem fIs_int {neg : Bool} : fIs neg (.int i) .non G Q = Q (.bl neg) G := rfl
theorem fIs_tup {neg : Bool} : fIs neg (.tup xs) .non G Q = Q (.bl neg) G := rfl
theorem fIs_ref {neg : Bool} : fIs neg (.ref a) .non G Q = Q (.bl neg) G := rfl
theorem fIn_tup {neg : Bool} : fIn neg (.int i) (.tup xs) G Q = (flatA (.int i) = true ∧ xs.all flatA = true ∧ Q (.bl (if neg = true then !inA (.int i) xs else inA (.int i) xs)) G) := rfl
theorem fIn_ref {neg : Bool} : fIn neg (.int i) (.ref a) G Q = ∃ xs, G a = some (.lst xs) ∧ flatA (.int i) = true ∧ xs.all flatA = true ∧ Q (.bl (if neg = true then !inA (.int i) xs else inA (.int i) xs)) G := rfl
theorem fIn_str {neg : Bool} : fIn neg (.str s) (.str t) G Q = Q (.bl (if neg = true then !(!(Builtin.Str.occurrences t s 0 t.length 1).isEmpty) else !(Builtin.Str.occurrences t s 0 t.length 1).isEmpty)) G := rfl
theorem tyA_non : tyA .non G R = R "NoneType" := rfl
theorem tyA_bl : tyA (.bl p) G R = R "bool" := rfl
theorem tyA_int : tyA (.int i) G R = R "int" := rfl
theorem tyA_str : tyA (.str s) G R = R "str" := rfl
theorem tyA_tup : tyA (.tup xs) G R = R "tuple" := rfl
theorem tyA_ref : tyA (.ref a) G R = ((∃ xs, G a = some (.lst xs) ∧ R "list") ∨ (∃ xs, G a = some (.dK xs) ∧ R "dict")) := rfl
theorem fIsi_2 {c : String} : fIsi [x, .ty c] G Q = tyA x G fun t => kitB t c = some (isiB t c) ∧ Q (.bl (isiB t c)) G := rfl
theorem fLen_tup : fLen [.tup xs] G Q = Q (.int xs.length) G := rfl
theorem fLen_ro : fLen [.ro ns] G Q = Q (.int ns.length) G := rfl
theorem fLen_str : fLen [.str s] G Q = (s.length ≤ sizeLine ∧ Q (.int s.length) G) := rfl
theorem fLen_ref : fLen [.ref a] G Q = ((∃ ys, G a = some (.lst ys) ∧ Q (.int ys.length) G) ∨ ∃ ys, G a = some (.dK ys) ∧ Q (.int ys.length) G) := rfl
theorem fAbs_int : fAbs [.int i] G Q = Q (.int (if i < 0 then -i else i)) G := rfl
theorem fMax2_int : fMax2 [.int i, .int j] G Q = Q (.int (if j > i then j else i)) G := rfl
theorem fMin2_int : fMin2 [.int i, .int j] G Q = Q (.int (if j < i then j else i)) G := rfl
theorem fInt_int : fInt [.int i] G Q = Q (.int i) G := rfl
theorem fInt_bl : fInt [.bl p] G Q = Q (.int (if p = true then 1 else 0)) G := rfl
theorem fList_tup : fList [.tup ys] G Q = ∀ p G', New G p (.lst ys) G' → Q (.ref p) G' := rfl
theorem fList_ref : fList [.ref a] G Q = ∃ ys, G a = some (.lst ys) ∧ ∀ p G', New G p (.lst ys) G' → Q (.ref p) G' := rfl
theorem fRevL_tup : fRevL (.tup ys) G Q = ∀ p G', New G p (.lst ys.reverse) G' → Q (.ref p) G' := rfl
theorem fRevL_ref : fRevL (.ref a) G Q = ∃ ys, G a = some (.lst ys) ∧ ∀ p G', New G p (.lst ys.reverse) G' → Q (.ref p) G' := rfl
theorem fTuple_ref : fTuple [.ref a] G Q = ∃ ys, G a = some (.lst ys) ∧ Q (.tup ys) G := rfl
theorem fTuple_tup : fTuple [.tup ys] G Q = Q (.tup ys) G := rfl
theorem fSum_ref : fSum [.ref a] G Q = ∃ ns : List Int, G a = some (.lst (ns.map AV.int)) ∧ Q (.int ns.sum) G := rfl
theorem fAll_ref : fAll [.ref a] G Q = ∃ ns : List Bool, G a = some (.lst (ns.map AV.bl)) ∧ Q (.bl (ns.all id)) G := rfl
theorem fAppend_ref : fAppend (.ref a) [y] G Q = ∃ ys, G a = some (.lst ys) ∧ ys.length < sizeLine ∧ Q .non (gset G a (.lst (ys ++ [y]))) := rfl
theorem fExtend_ref : fExtend (.ref a) [.ref b] G Q = ∃ ys zs, G a = some (.lst ys) ∧ G b = some (.lst zs) ∧ ys.length + zs.length ≤ sizeLine ∧ Q .non (gset G a (.lst (ys ++ zs))) := rfl
theorem fPop_ref : fPop (.ref a) [] G Q = ∃ ys y, G a = some (.lst ys) ∧ ys[ys.length - 1]? = some y ∧ Q y (gset G a (.lst ys.dropLast)) := rfl
theorem fJoin_ref : fJoin (.str s) [.ref a] G Q = ∃ ys : List Str, G a = some (.lst (ys.map AV.str)) ∧ (ys.map (·.length)).sum + ys.length * s.length ≤ 16777216 ∧ Q (.str (Txt.join s ys)) G := rfl
theorem fSetL_ref {P : Gp → Prop} : fSetL (.ref a) (.int i) x G P = ∃ xs j, G a = some (.lst xs) ∧ ixN xs.length i = some j ∧ P (gset G a (.lst (xs.set j x))) := rfl
theorem truA_bl : truA (.bl p) G P = P p := rfl
theorem truA_non : truA .non G P = P false := rfl
theorem truA_int : truA (.int i) G P = P (i != 0) := rfl
theorem truA_tup : truA (.tup xs) G P = P (!xs.isEmpty) := rfl
theorem truA_lst (h : G a = some (.lst xs)) (k : P (!xs.isEmpty)) : truA (.ref a) G P := by unfold truA; simp only [h]; exact k
theorem isTy_lst (h : G a = some (.lst xs)) : isTy "list" (.ref a) G := by unfold isTy; simp only [h]
theorem isTy_dK {kvs : List (Key × AV)} (h : G a = some (.dK kvs)) : isTy "dict" (.ref a) G := by unfold isTy; simp only [h]
theorem isTy_str : isTy "str" (.str s) G = True := by unfold isTy; simp only
theorem av_bl {n : Int} : Tm.av (.bl n) = .int n := rfl
theorem av_fn {f : Str} {ts : List Tm} : Tm.av (.fn f ts) = .tup (.str f :: Tm.avL ts) := rfl
end
end Rw
/-! dicts whose keys are ints or texts; zip -/
namespace Rw
open PySem L2 RZ
def kA : Key → AV
  | .inl i => .int i
  | .inr x => .str x
def keyA : AV → Option Key
  | .int i => some (.inl i)
  | .str x => some (.inr x)
  | _ => none
theorem keyA_rep {K : PySem.W.Frag} {H : Hp} {x : AV} {v : V} {k : Key} (h : keyA x = some k) (r : Rep K H x v) : v = kV k := by
  cases r with
  | int i => cases h; rfl
  | str z => cases h; rfl
  | _ => cases h
def valA (kvs : List (Key × AV)) (k : Key) : Option AV := (kvs.find? fun kv => decide (kv.1 = k)).map (·.2)
def putA (kvs : List (Key × AV)) (k : Key) (v : AV) : List (Key × AV) :=
  if (kvs.any fun kv => decide (kv.1 = k)) = true then kvs.map (fun kv => if kv.1 = k then (kv.1, v) else kv) else kvs ++ [(k, v)]
def mergeA (kvs more : List (Key × AV)) : List (Key × AV) := more.foldl (fun acc kv => putA acc kv.1 kv.2) kvs
section
variable {K : PySem.W.Frag} {H : Hp}
theorem RKV.cons_inv {kvs : List (Key × AV)} {ws : List (Key × V)} {p : Key × AV} (r : RKV K H (p :: kvs) ws) : ∃ q rs, ws = q :: rs ∧ p.1 = q.1 ∧ Rep K H p.2 q.2 ∧ RKV K H kvs rs := by
  cases r with
  | cons h t => exact ⟨_, _, rfl, h.1, h.2, t⟩
theorem RKV.nil_inv {ws : List (Key × V)} (r : RKV K H ([] : List (Key × AV)) ws) : ws = [] := by
  cases r; rfl
theorem RKV.any : ∀ {kvs : List (Key × AV)} {ws : List (Key × V)} (k : Key), RKV K H kvs ws → (ws.any fun kv => decide (kv.1 = k)) = kvs.any fun kv => decide (kv.1 = k)
  | [], _, k, r => by rw [r.nil_inv]; rfl
  | p :: kvs, _, k, r => by
    obtain ⟨q, rs, rfl, e, _, t⟩ := r.cons_inv
    rw [List.any_cons, List.any_cons, RKV.any k t, e]
theorem RKV.val : ∀ {kvs : List (Key × AV)} {ws : List (Key × V)} (k : Key), RKV K H kvs ws → (valA kvs k = none ∧ valV ws k = none) ∨ ∃ x v, valA kvs k = some x ∧ valV ws k = some v ∧ Rep K H x v
  | [], _, k, r => by rw [r.nil_inv]; exact .inl ⟨rfl, rfl⟩
  | p :: kvs, _, k, r => by
    obtain ⟨q, rs, rfl, e, rp, t⟩ := r.cons_inv
    by_cases h : p.1 = k
    · refine .inr ⟨p.2, q.2, by simp [valA, List.find?_cons, h], valV_pos (by rw [← e]; exact h), rp⟩
    · have h' : ¬ q.1 = k := by rw [← e]; exact h
      rw [valV_neg h', show valA (p :: kvs) k = valA kvs k from by simp [valA, List.find?_cons, h]]
      exact RKV.val k t
theorem RKV.mapPut : ∀ {kvs : List (Key × AV)} {ws : List (Key × V)} (k : Key) {x : AV} {v : V}, RKV K H kvs ws → Rep K H x v → RKV K H (kvs.map fun kv => if kv.1 = k then (kv.1, x) else kv) (ws.map fun kv => if kv.1 = k then (kv.1, v) else kv)
  | [], _, k, _, _, r, _ => by rw [r.nil_inv]; exact .nil
  | p :: kvs, _, k, x, v, r, rx => by
    obtain ⟨q, rs, rfl, e, rp, t⟩ := r.cons_inv
    rw [List.map_cons, List.map_cons]
    refine .cons ?_ (RKV.mapPut k t rx)
    by_cases h : p.1 = k
    · rw [if_pos h, if_pos (by rw [← e]; exact h)]; exact ⟨e, rx⟩
    · rw [if_neg h, if_neg (by rw [← e]; exact h)]; exact ⟨e, rp⟩
theorem RKV.snoc : ∀ {kvs : List (Key × AV)} {ws : List (Key × V)} {p : Key × AV} {q : Key × V}, RKV K H kvs ws → p.1 = q.1 → Rep K H p.2 q.2 → RKV K H (kvs ++ [p]) (ws ++ [q])
  | [], _, _, _, r, e, rp => by rw [r.nil_inv]; exact .cons ⟨e, rp⟩ .nil
  | a :: kvs, _, _, _, r, e, rp => by
    obtain ⟨b, rs, rfl, e2, r2, t⟩ := r.cons_inv
    exact .cons ⟨e2, r2⟩ (RKV.snoc t e rp)
theorem RKV.put {kvs : List (Key × AV)} {ws : List (Key × V)} (k : Key) {x : AV} {v : V} (r : RKV K H kvs ws) (rx : Rep K H x v) : RKV K H (putA kvs k x) (putK ws k v) := by
  unfold putA putK
  rw [r.any k]
  by_cases h : (kvs.any fun kv => decide (kv.1 = k)) = true
  · rw [if_pos h, if_pos h]; exact r.mapPut k rx
  · rw [if_neg h, if_neg h]; exact r.snoc rfl rx
theorem RKV.merge : ∀ {more : List (Key × AV)} {ms : List (Key × V)} {kvs : List (Key × AV)} {ws : List (Key × V)}, RKV K H more ms → RKV K H kvs ws → RKV K H (mergeA kvs more) (mergeK ws ms)
  | [], _, _, _, r, s => by rw [r.nil_inv]; exact s
  | p :: more, _, _, _, r, s => by
    obtain ⟨q, rs, rfl, e, rp, t⟩ := r.cons_inv
    show RKV K H (mergeA (putA _ p.1 p.2) more) (mergeK (putK _ q.1 q.2) rs)
    rw [← e]
    exact RKV.merge t (s.put _ rp)
theorem RKV.length {kvs : List (Key × AV)} {ws : List (Key × V)} (r : RKV K H kvs ws) : ws.length = kvs.length := (Paired.length r).symm
theorem wr_dK {G : Gp} {Q0 : Gp → Prop} {Q : Hp → Prop} {xs ys : List (Key × AV)} {ws : List (Key × V)} {p : Addr} (hg : SimG K G H) (h0 : G p = some (.dK xs)) (r : RKV K H ys ws) (h : Q0 (gset G p (.dK ys))) (hq : ∀ G' H', Q0 G' → Ext G H G' H' → SimG K G' H' → Q H') : Q (upd H p (.dK ws)) := by
  obtain ⟨e, g⟩ := ext_write (o := .dK ws) (g := .dK ys) hg h0 fun k => ⟨ws, upd_same, r.up k⟩
  exact hq _ _ h e g
theorem new_dK {G : Gp} {Q0 : AK} {Q : VK} {xs : List (Key × AV)} {vs : List (Key × V)} {p : Addr} (hg : SimG K G H) (r : RKV K H xs vs) (h : ∀ p G', New G p (.dK xs) G' → Q0 (.ref p) G') (hq : LK K G H Q0 Q) (hp : H p = none) : Q (.ref p) (upd H p (.dK vs)) := by
  obtain ⟨e, g⟩ := ext_alloc (o := .dK vs) (g := .dK xs) hg hp fun k => ⟨vs, upd_same, r.up k⟩
  exact hq _ _ _ _ (h p _ ⟨rfl, hg.none hp⟩) e g (.ref p)
end

/-! ### d[k] -/
def fDGet : AF2 := fun x y G Q => onRef x fun a => ∃ kvs k v, G a = some (.dK kvs) ∧ keyA y = some k ∧ valA kvs k = some v ∧ Q v G
def fDIn (neg : Bool) : AF2 := fun y x G Q => onRef x fun a => ∃ kvs k, G a = some (.dK kvs) ∧ keyA y = some k ∧ Q (.bl (if neg = true then !(valA kvs k).isSome else (valA kvs k).isSome)) G
def fSetD : ASet := fun o i x G Q => onRef o fun a => ∃ kvs k, G a = some (.dK kvs) ∧ keyA i = some k ∧ kvs.length < sizeLine ∧ Q (gset G a (.dK (putA kvs k x)))
section
variable {K : PySem.W.Frag}
theorem dget_of {G : Gp} {H : Hp} {a : Addr} {kvs : List (Key × AV)} {k : Key} {y : AV} {v : V} (hg : SimG K G H) (e : G a = some (.dK kvs)) (hk : keyA y = some k) (ry : Rep K H y v) :
    ∃ o, DGet H a v o ∧ ((valA kvs k = none ∧ o = none) ∨ ∃ x u, valA kvs k = some x ∧ o = some u ∧ Rep K H x u) := by
  obtain ⟨ws, hw, r⟩ := hg _ _ e
  have ev := keyA_rep hk ry
  subst ev
  exact ⟨_, DGet.k hw, r.val k⟩
end
section
variable {X : Cx} {W : WW} {o i e f : Expr} {to ti te tf : AT} {pos : Pos} {k : Nat}
theorem hu1 {A : Around} {k : Nat} (hr : Room k A) : A.units + 1 < cLine := by have := hr.un; omega
theorem ae_dget (hr : Room k X.A) (ho : AE X W o to) (hi : AE X W i ti) (hs : NoSl i := by exact fun _ _ => rfl) : AE X W (.Subscript o i pos) (aOp2 fDGet to ti) :=
  peI (pe_dget (hu1 hr) ho hi hs) fun σ H Q ⟨ρ, G, Q0, E0, hs, hg, h, hq, he⟩ => by
    refine ⟨ρ, G, _, E0, hs, hg, h, ?_, he⟩
    intro x G1 v H1 h1 e1 g1 r1
    refine ⟨ρ, G1, _, E0, hs.up e1.toKept, g1, h1, ?_, he.up e1⟩
    intro y G2 w H2 h2 e2 g2 r2
    cases r1 with
    | ref a =>
      obtain ⟨kvs, k, z, hd, hk, hv, h2⟩ := h2
      obtain ⟨o, d, ⟨n1, _⟩ | ⟨x', u, n1, rfl, ru⟩⟩ := dget_of g2 hd hk r2
      · rw [hv] at n1; cases n1
      · rw [hv] at n1; cases n1
        exact ⟨a, u, rfl, d, hq _ _ _ _ h2 (e1.trans e2) g2 ru⟩
    | _ => exact False.elim h2
theorem op_inD (hu : X.A.units + 1 < cLine) : OpR X (compareOp .In) (fun y x H Q => ∃ a o, x = .ref a ∧ DGet H a y o ∧ Q (.bl o.isSome) H) := by
  intro pins s σ H y x iv u Q I ry rx h
  obtain ⟨a, ov, ex, g, q2⟩ := h
  subst ex
  obtain rfl : u = Value.ref a := rx
  exact d_in hu I g ry fun s3 I3 => ⟨.bl ov.isSome, H, I3, rfl, q2⟩
theorem op_ninD (hu : X.A.units + 1 < cLine) : OpR X (compareOp .NotIn) (fun y x H Q => ∃ a o, x = .ref a ∧ DGet H a y o ∧ Q (.bl (!o.isSome)) H) := by
  intro pins s σ H y x iv u Q I ry rx h
  obtain ⟨a, ov, ex, g, q2⟩ := h
  subst ex
  obtain rfl : u = Value.ref a := rx
  exact d_notIn hu I g ry fun s3 I3 => ⟨.bl (!ov.isSome), H, I3, rfl, q2⟩
theorem lf_din {K : PySem.W.Frag} : Lift2 K (fun y x H Q => ∃ a o, x = .ref a ∧ DGet H a y o ∧ Q (.bl o.isSome) H) (fDIn false) := by
  intro y x v w G H Q0 Q ry rx hg h hq
  cases rx with
  | ref a =>
    obtain ⟨kvs, k, hd, hk, h⟩ := h
    obtain ⟨o, d, ⟨n1, rfl⟩ | ⟨x', u, n1, rfl, ru⟩⟩ := dget_of hg hd hk ry
    · rw [n1] at h; exact ⟨a, _, rfl, d, hq _ _ _ _ h .refl hg (.bl _)⟩
    · rw [n1] at h; exact ⟨a, _, rfl, d, hq _ _ _ _ h .refl hg (.bl _)⟩
  | _ => exact False.elim h
theorem lf_ndin {K : PySem.W.Frag} : Lift2 K (fun y x H Q => ∃ a o, x = .ref a ∧ DGet H a y o ∧ Q (.bl (!o.isSome)) H) (fDIn true) := by
  intro y x v w G H Q0 Q ry rx hg h hq
  cases rx with
  | ref a =>
    obtain ⟨kvs, k, hd, hk, h⟩ := h
    obtain ⟨o, d, ⟨n1, rfl⟩ | ⟨x', u, n1, rfl, ru⟩⟩ := dget_of hg hd hk ry
    · rw [n1] at h; exact ⟨a, _, rfl, d, hq _ _ _ _ h .refl hg (.bl _)⟩
    · rw [n1] at h; exact ⟨a, _, rfl, d, hq _ _ _ _ h .refl hg (.bl _)⟩
  | _ => exact False.elim h
theorem ae_din (hr : Room k X.A) (ha : AE X W e te) (hb : AE X W o to) (hm : behindInMarks .In o = false := by rfl) : AE X W (.Compare e [.In] [o] pos) (aOp2 (fDIn false) te to) := ae_cmp (op_inD (hu1 hr)) lf_din ha hb hm
theorem ae_dnotIn (hr : Room k X.A) (ha : AE X W e te) (hb : AE X W o to) (hm : behindInMarks .NotIn o = false := by rfl) : AE X W (.Compare e [.NotIn] [o] pos) (aOp2 (fDIn true) te to) := ae_cmp (op_ninD (hu1 hr)) lf_ndin ha hb hm
theorem at_din (hr : Room k X.A) (ha : AE X W e te) (hb : AE X W o to) (hm : behindInMarks .In o = false := by rfl) : ATest X W (.Compare e [.In] [o] pos) (aTest (aOp2 (fDIn false) te to)) := at_cmp (op_inD (hu1 hr)) lf_din ha hb hm
theorem at_dnotIn (hr : Room k X.A) (ha : AE X W e te) (hb : AE X W o to) (hm : behindInMarks .NotIn o = false := by rfl) : ATest X W (.Compare e [.NotIn] [o] pos) (aTest (aOp2 (fDIn true) te to)) := at_cmp (op_ninD (hu1 hr)) lf_ndin ha hb hm
/-- d.get(k, x) -/
def fDGet2 (x y z : AV) (G : Gp) (Q : AK) : Prop := onRef x fun a => ∃ kvs k, G a = some (.dK kvs) ∧ keyA y = some k ∧ Q ((valA kvs k).getD z) G
def isDA (x : AV) (G : Gp) : Prop := onRef x fun a => ∃ kvs, G a = some (.dK kvs)
def aDGet2 (to te tf : AT) : AT := fun ρ G Q E => to ρ G (fun x G1 => isDA x G1 ∧ te ρ G1 (fun y G2 => tf ρ G2 (fun z G3 => fDGet2 x y z G3 Q) E) E) E
theorem ae_dget2 {apos cpos : Pos} (hr : Room k X.A) (ho : AE X W o to) (he : AE X W e te) (hf : AE X W f tf) (m : M2 X o "get" apos e f cpos := by exact ⟨rfl, rfl, rfl, rfl⟩) : AE X W (.Call (.Attribute o "get" apos) [e, f] [] cpos) (aDGet2 to te tf) :=
  peI (pe_dget2 (hu1 hr) ho he hf m) fun σ H Q ⟨ρ, G, Q0, E0, hs, hg, h, hq, he⟩ => by
    refine ⟨ρ, G, _, E0, hs, hg, h, ?_, he⟩
    intro x G1 v H1 ⟨hx, h1⟩ e1 g1 r1
    cases r1 with
    | ref a =>
      obtain ⟨kvs0, e0⟩ := hx
      obtain ⟨ws0, hw0, _⟩ := g1 _ _ e0
      refine ⟨a, rfl, .inl ⟨ws0, .inl hw0⟩, ρ, G1, _, E0, hs.up e1.toKept, g1, h1, ?_, he.up e1⟩
      intro y G2 w H2 h2 e2 g2 r2
      refine ⟨ρ, G2, _, E0, hs.up (e1.trans e2).toKept, g2, h2, ?_, he.up (e1.trans e2)⟩
      intro z G3 w3 H3 h3 e3 g3 r3
      obtain ⟨kvs, k, hd, hk, h3⟩ := h3
      obtain ⟨o, d, ⟨n1, rfl⟩ | ⟨x', u, n1, rfl, ru⟩⟩ := dget_of g3 hd hk (r2.up e3.toKept)
      · rw [n1] at h3; exact ⟨_, d, hq _ _ _ _ h3 ((e1.trans e2).trans e3) g3 r3⟩
      · rw [n1] at h3; exact ⟨_, d, hq _ _ _ _ h3 ((e1.trans e2).trans e3) g3 ru⟩
    | _ => exact False.elim hx
/-- {} -/
def aDNew : AT := fun _ G Q _ => ∀ p G', New G p (.dK []) G' → Q (.ref p) G'
theorem ae_dnew : AE X W (.Dict [] [] pos) aDNew := peI pe_dnewK fun σ H Q ⟨ρ, G, Q0, E0, hs, hg, h, hq, he⟩ => fun p hp => new_dK hg .nil h hq hp
/-- {k: v, ..} -/
def aPairs : List (AT × AT) → ASt → Gp → (List (AV × AV) → Gp → Prop) → AX → Prop
  | [], _, G, Q, _ => Q [] G
  | (tk, tv) :: r, ρ, G, Q, E => tk ρ G (fun x G1 => tv ρ G1 (fun y G2 => aPairs r ρ G2 (fun ps G3 => Q ((x, y) :: ps) G3) E) E) E
def lowPs (K : PySem.W.Frag) (W : WW) (ts : List (AT × AT)) : List (TE × TE) := ts.map fun p => (lowE K W p.1, lowE K W p.2)
abbrev APairs (X : Cx) (W : WW) (pos : Pos) (ks : List (Option Expr)) (vs : List Expr) (ts : List (AT × AT)) : Prop := PPs X pos ks vs (lowPs X.K W ts)
theorem ap_nil : APairs X W pos [] [] [] := pps_nil
theorem ap_cons {ks : List (Option Expr)} {vs : List Expr} {ts : List (AT × AT)} (hk : AE X W e te) (hv : AE X W f tf) (hr : APairs X W pos ks vs ts) : APairs X W pos (some e :: ks) (f :: vs) ((te, tf) :: ts) := pps_cons hk hv hr
def RPs (K : PySem.W.Frag) (H : Hp) : List (AV × AV) → List (V × V) → Prop := Paired fun p q => Rep K H p.1 q.1 ∧ Rep K H p.2 q.2
theorem low_pairs {K : PySem.W.Frag} {W : WW} : ∀ {ts : List (AT × AT)} {ρ : ASt} {G : Gp} {Q0 : List (AV × AV) → Gp → Prop} {E0 : AX} {σ : L2.St} {H : Hp} {Q : List (V × V) → Hp → Prop}, SimS K ρ σ H → SimG K G H → aPairs ts ρ G Q0 E0 →
    (∀ ps G' qs H', Q0 ps G' → Ext G H G' H' → SimG K G' H' → RPs K H' ps qs → Q qs H') → LX K W σ G H E0 → tPairs (lowPs K W ts) σ H Q
  | [], ρ, G, Q0, E0, σ, H, Q, hs, hg, h, hq, he => hq _ _ _ _ h .refl hg .nil
  | (tk, tv) :: r, ρ, G, Q0, E0, σ, H, Q, hs, hg, h, hq, he => by
    refine ⟨ρ, G, _, E0, hs, hg, h, ?_, he⟩
    intro x G1 v H1 h1 e1 g1 r1
    refine ⟨ρ, G1, _, E0, hs.up e1.toKept, g1, h1, ?_, he.up e1⟩
    intro y G2 w H2 h2 e2 g2 r2
    refine low_pairs (hs.up (e1.trans e2).toKept) g2 h2 ?_ (he.up (e1.trans e2))
    intro ps G3 qs H3 h3 e3 g3 r3
    exact hq _ _ _ _ h3 ((e1.trans e2).trans e3) g3 (.cons ⟨r1.up (e2.trans e3).toKept, r2.up e3.toKept⟩ r3)
def aDisp (ts : List (AT × AT)) : AT := fun ρ G Q E => aPairs ts ρ G (fun ps G1 => ∃ kvs : List (Key × AV), ps = kvs.map (fun kv => (kA kv.1, kv.2)) ∧ kvs.length ≤ 15 ∧ ∀ p G', New G1 p (.dK (mergeA [] kvs)) G' → Q (.ref p) G') E
theorem RPs.keys {K : PySem.W.Frag} {H : Hp} : ∀ {kvs : List (Key × AV)} {qs : List (V × V)}, RPs K H (kvs.map fun kv => (kA kv.1, kv.2)) qs → ∃ ws : List (Key × V), qs = ws.map (fun kv => (kV kv.1, kv.2)) ∧ RKV K H kvs ws
  | [], _, r => by cases r; exact ⟨[], rfl, .nil⟩
  | (k, x) :: kvs, _, r => by
    cases r with
    | cons h t =>
      rename_i q qs
      obtain ⟨ws, rfl, r2⟩ := RPs.keys t
      obtain ⟨q1, q2⟩ := q
      have e : q1 = kV k := by
        have h1 : Rep K H (kA k) q1 := h.1
        cases k <;> (cases h1; rfl)
      subst e
      exact ⟨(k, q2) :: ws, rfl, .cons ⟨rfl, h.2⟩ r2⟩
theorem ae_disp {ks : List (Option Expr)} {vs : List Expr} {ts : List (AT × AT)} (h : APairs X W pos ks vs ts) (hall : ks.all (·.isSome) = true := by rfl) (hl : ks.length = vs.length := by rfl) (h0 : ks ≠ [] := by exact List.cons_ne_nil _ _) (h15 : ks.length ≤ 15 := by decide) :
    AE X W (.Dict ks vs pos) (aDisp ts) := peI (pe_disp h hall hl h0 h15) fun σ H Q ⟨ρ, G, Q0, E0, hs, hg, h, hq, he⟩ => fun p hp => by
  obtain ⟨ex, gx⟩ := ext_new (o := .dK []) hg hp
  have hGp := hg.none hp
  refine low_pairs (hs.up ex.toKept) gx h ?_ (he.up ex)
  intro ps G2 qs H2 h2 e2 g2 r2
  obtain ⟨h2p, n2⟩ := e2.fr p _ upd_same hGp
  obtain ⟨kvs, rfl, hlen, h2⟩ := h2
  obtain ⟨ws, rfl, rk⟩ := r2.keys
  refine ⟨h2p, ws, rfl, by rw [rk.length]; exact hlen, ?_⟩
  have rm : RKV X.K H2 (mergeA [] kvs) (mergeK [] ws) := rk.merge .nil
  have k2 : Kept H2 (upd H2 p (.dK (mergeK [] ws))) := ⟨fun b u h => by rw [upd_ne (fun z => by rw [z, h2p] at h; cases h)]; exact h, fun b u v h => by rw [upd_ne (fun z => by rw [z, h2p] at h; cases h)]; exact h, fun b q h => by rw [upd_ne (fun z => by rw [z, h2p] at h; cases h)]; exact h⟩
  have eq := ex.trans e2
  refine hq _ _ _ _ (h2 p _ ⟨rfl, n2⟩) ⟨eq.toKept.trans k2, fun b u h n => ?_⟩ (fun a u h => ?_) (.ref p)
  · have hb : b ≠ p := fun z => by rw [z, hp] at h; cases h
    rw [upd_ne hb, gset_ne hb]
    exact eq.fr b u h n
  · by_cases hne : a = p
    · subst hne
      rw [gset_same] at h; cases h
      exact ⟨_, upd_same, rm.up k2⟩
    · rw [gset_ne hne] at h
      exact (g2 a u h).up k2 (upd_ne hne)
/-- d[k] = v -/
theorem lf_setD {K : PySem.W.Frag} : LiftSet K rSetD fSetD := by
  intro o i x v1 v2 v3 G H Q0 Q r1 r2 r3 hg h hq
  cases r1 with
  | ref a =>
    obtain ⟨kvs, k, e, hk, hl, h⟩ := h
    obtain ⟨ws, hw, r⟩ := hg _ _ e
    have ev := keyA_rep hk r2
    subst ev
    exact ⟨a, _, rfl, DPut.k hw (by rw [r.length]; exact hl), wr_dK hg e (r.put k r3) h hq⟩
  | _ => exact False.elim h
theorem ag_setD (hr : Room k X.A) (ho : AE X W o to) (hi : AE X W i ti)
    (ha : ∀ v, assign (.Subscript o i pos) X.env v = (do
      let ov ← holding [v] (eval o X.env)
      let iv ← holding [v, ov] (eval i X.env)
      standAt pos
      holding [v, ov, iv] (setItem ov iv v)
      release [v, ov, iv] []) := by intro _; rfl) : AG X W (.Subscript o i pos) (agSub to ti fSetD) := ag_sub ho hi (set_dict (hu1 hr)) lf_setD ha
end
/-! ### dict(d), list(d) -/
def fDict1 : AFN := fun xs G Q => match xs with
  | [.ref a] => ∃ kvs, G a = some (.dK kvs) ∧ ∀ p G', New G p (.dK kvs) G' → Q (.ref p) G'
  | _ => False
def fListD : AFN := fun xs G Q => match xs with
  | [.ref a] => ∃ kvs, G a = some (.dK kvs) ∧ ∀ p G', New G p (.lst (kvs.map fun kv => kA kv.1)) G' → Q (.ref p) G'
  | _ => False
theorem RKV.keysL {K : PySem.W.Frag} {H : Hp} : ∀ {kvs : List (Key × AV)} {ws : List (Key × V)}, RKV K H kvs ws → RepL K H (kvs.map fun kv => kA kv.1) (ws.map fun kv => kV kv.1)
  | [], _, r => by rw [r.nil_inv]; exact .nil
  | (k, x) :: kvs, _, r => by
    obtain ⟨q, rs, rfl, e, _, t⟩ := r.cons_inv
    have e : k = q.1 := e
    refine .cons ?_ t.keysL
    show Rep K H (kA k) (kV q.1)
    rw [← e]
    cases k with
    | inl i => exact .int i
    | inr z => exact .str z
theorem lf_dict1 {K : PySem.W.Frag} : LiftN K (fun xs H Q => ∃ (a : Addr) (kvs : List (Key × V)), xs = [.ref a] ∧ Rd H a (.dK kvs) ∧ ∀ p, H p = none → Q (.ref p) (upd H p (.dK kvs))) fDict1 := by
  intro xs vs G H Q0 Q r hg h hq
  unfold fDict1 at h
  split at h
  · obtain ⟨v, rfl, rx⟩ := r.one
    cases rx
    obtain ⟨kvs, e, h⟩ := h
    obtain ⟨ws, hw, rk⟩ := hg _ _ e
    exact ⟨_, ws, rfl, .inl hw, fun p hp => new_dK hg rk h hq hp⟩
  · exact h.elim
theorem lf_listD {K : PySem.W.Frag} : LiftN K (fun xs H Q => ∃ (a : Addr) (kvs : List (Key × V)), xs = [.ref a] ∧ Rd H a (.dK kvs) ∧ ∀ p, H p = none → Q (.ref p) (upd H p (.lst (kvs.map fun kv => kV kv.1)))) fListD := by
  intro xs vs G H Q0 Q r hg h hq
  unfold fListD at h
  split at h
  · obtain ⟨v, rfl, rx⟩ := r.one
    cases rx
    obtain ⟨kvs, e, h⟩ := h
    obtain ⟨ws, hw, rk⟩ := hg _ _ e
    exact ⟨_, ws, rfl, .inl hw, fun p hp => new_lst hg rk.keysL h hq hp⟩
  · exact h.elim
section
variable {X : Cx} {W : WW} {a b e : Expr} {es : List Expr} {t : ATA} {ta tb : AT} {p pos : Pos} {k : Nat}
theorem ae_dict1 (hm : X.mg "dict" = none) (ha : AArgs X W (e :: es) t) (hg : Gl X "dict" := by rfl) (he : starEach (e :: es) X.env = (false, eval e X.env) :: starEach es X.env := by rfl) (hpl : (backTo pos (starEach es X.env)).any (·.1) = false := by rfl) : AE X W (.Call (.Name "dict" p) (e :: es) [] pos) (aCallB fDict1 t) :=
  ae_callTy call_dictD lf_dict1 hm (by decide +kernel) ha hg (by decide) (by decide) he hpl
theorem ae_listD (hm : X.mg "list" = none) (hc : X.calm = true) (ha : AArgs X W (e :: es) t) (hg : Gl X "list" := by rfl) (he : starEach (e :: es) X.env = (false, eval e X.env) :: starEach es X.env := by rfl) (hpl : (backTo pos (starEach es X.env)).any (·.1) = false := by rfl) : AE X W (.Call (.Name "list" p) (e :: es) [] pos) (aCallB fListD t) :=
  ae_callTy (call_listD hc) lf_listD hm (by decide +kernel) ha hg (by decide) (by decide) he hpl

/-! ### == of dicts -/
def DpV (K : PySem.W.Frag) (H : Hp) : List (Key × V) → List (Key × PyData) → Prop := Paired fun p q => p.1 = q.1 ∧ Dp K H p.2 q.2
def valD (kvs : List (Key × PyData)) (k : Key) : Option PyData := (kvs.find? fun kv => decide (kv.1 = k)).map (·.2)
def hitD (kd ld : List (Key × PyData)) : Bool := kd.all fun p => match valD ld p.1 with | some d => PyData.eqv p.2 d | none => false
def okKD (kd : List (Key × PyData)) : Prop := ∀ p ∈ kd, p.2.canLay0 = true ∧ p.2.depth ≤ 200
def eqKD (kd ld : List (Key × PyData)) : Bool := kd.length == ld.length && hitD kd ld
theorem DpV.val {K : PySem.W.Frag} {H : Hp} : ∀ {ws : List (Key × V)} {ld : List (Key × PyData)} (k : Key), DpV K H ws ld → (valV ws k = none ∧ valD ld k = none) ∨ ∃ v d, valV ws k = some v ∧ valD ld k = some d ∧ Dp K H v d ∧ (k, d) ∈ ld
  | [], _, k, r => by cases r; exact .inl ⟨rfl, rfl⟩
  | p :: ws, _, k, r => by
    cases r with
    | cons h t =>
      rename_i q rs
      by_cases e : p.1 = k
      · have e' : q.1 = k := by rw [← h.1]; exact e
        refine .inr ⟨p.2, q.2, valV_pos e, by simp [valD, List.find?_cons, e'], h.2, ?_⟩
        rw [← e']
        exact List.mem_cons_self
      · have e' : ¬ q.1 = k := by rw [← h.1]; exact e
        rw [valV_neg e, show valD (q :: rs) k = valD rs k from by simp [valD, List.find?_cons, e']]
        rcases DpV.val k t with h | ⟨v, d, h1, h2, h3, h4⟩
        · exact .inl h
        · exact .inr ⟨v, d, h1, h2, h3, List.mem_cons_of_mem _ h4⟩
theorem hits_data {pins : List (Addr × Obj)} {σ : L2.St} {H : Hp} {s : Shared} (I : Inv X pins σ H s) {A : Around} (hu : A.units + 200 < cLine) {ls : List (Key × V)} {ld : List (Key × PyData)} {vb : List (Key × Value)} (rb : KV ls vb) (hl : DpV X.K H ls ld) (ol : okKD ld) :
    ∀ {ks : List (Key × V)} {kd : List (Key × PyData)} {va : List (Key × Value)}, KV ks va → DpV X.K H ks kd → okKD kd → ∃ r, PySem.W.KeqHits A s vb va r ∧ r = hitD kd ld := by
  intro ks kd va ra
  unfold KV at ra
  induction ra generalizing kd with
  | nil => intro h _; cases h; exact ⟨true, .nil, rfl⟩
  | @cons p q ps qs h t ih =>
    intro hk ok
    cases hk with
    | cons h2 t2 =>
      rename_i kd0 kds
      obtain ⟨key, v⟩ := q
      have h1' : p.1 = key := h.1
      obtain ⟨r, hr, er⟩ := ih t2 fun x hx => ok x (List.mem_cons_of_mem _ hx)
      have hd0 := ok kd0 List.mem_cons_self
      have e0 : kd0.1 = key := by rw [← h2.1]; exact h1'
      rcases hl.val p.1 with ⟨n1, n2⟩ | ⟨u, d, n1, n2, dp, hm⟩
      · refine ⟨false, .miss ?_, ?_⟩
        · have := rb.val p.1
          rw [n1, h1'] at this
          cases z : valueAt vb key with
          | none => rfl
          | some y => rw [z] at this; exact this.elim
        · unfold hitD
          rw [List.all_cons, e0, ← h1', n2]
          rfl
      · have rr : RelO (some u) (valueAt vb p.1) := by rw [← n1]; exact rb.val p.1
        obtain ⟨y, hy, ry⟩ := rr.some_of
        rw [h1'] at hy
        obtain ⟨as1, r1⟩ := Dp.reads I _ _ _ h2.2 h.2
        obtain ⟨as2, r2⟩ := Dp.reads I _ _ _ dp ry
        have ol' := ol _ hm
        have q := SeqAt.eqAt_reads kd0.2 d A s v y as1 as2 r1 r2 hd0.1 ol'.1 (by have := hd0.2; have : min kd0.2.depth d.depth ≤ kd0.2.depth := Nat.min_le_left _ _; omega)
        refine ⟨_, .hit hy q hr, ?_⟩
        rw [er]
        unfold hitD
        rw [List.all_cons, e0, ← h1', n2]
def rEqK (K : PySem.W.Frag) (neg : Bool) : R2 := fun x y H Q => ∃ a b ks ls kd ld, x = .ref a ∧ y = .ref b ∧ H a = some (.dK ks) ∧ H b = some (.dK ls) ∧ DpV K H ks kd ∧ DpV K H ls ld ∧ okKD kd ∧ okKD ld ∧ Q (.bl (if neg = true then !eqKD kd ld else eqKD kd ld)) H
theorem op_eqK (hu : X.A.units + 201 < cLine) : OpR X (compareOp .Eq) (rEqK X.K false) := by
  intro pins s σ H x y v u Q I rx ry h
  obtain ⟨a, b, ks, ls, kd, ld, rfl, rfl, ea, eb, h1, h2, o1, o2, q⟩ := h
  obtain rfl : v = Value.ref a := rx
  obtain rfl : u = Value.ref b := ry
  obtain ⟨_, ya, va, ra, da⟩ := (show ObjOk X.prog X.w H s.heap a (.dK ks) from I.hok a _ ea)
  obtain ⟨_, yb, vb, rb, db⟩ := (show ObjOk X.prog X.w H s.heap b (.dK ls) from I.hok b _ eb)
  obtain ⟨r, hr, er⟩ := hits_data I (A := X.A.in1) (show X.A.units + 1 + 200 < cLine by omega) rb h2 o2 ra h1 o1
  subst er
  refine PySem.W.keq_eq (knd := mixKind X.prog X.w) ya yb da db (by omega) (fun _ => hr) ⟨.bl _, H, I, rfl, ?_⟩
  rw [← ra.length, ← rb.length, Paired.length h1, Paired.length h2]
  exact q
theorem op_neK (hu : X.A.units + 201 < cLine) : OpR X (compareOp .NotEq) (rEqK X.K true) := by
  intro pins s σ H x y v u Q I rx ry h
  obtain ⟨a, b, ks, ls, kd, ld, rfl, rfl, ea, eb, h1, h2, o1, o2, q⟩ := h
  obtain rfl : v = Value.ref a := rx
  obtain rfl : u = Value.ref b := ry
  obtain ⟨_, ya, va, ra, da⟩ := (show ObjOk X.prog X.w H s.heap a (.dK ks) from I.hok a _ ea)
  obtain ⟨_, yb, vb, rb, db⟩ := (show ObjOk X.prog X.w H s.heap b (.dK ls) from I.hok b _ eb)
  obtain ⟨r, hr, er⟩ := hits_data I (A := X.A.in1) (show X.A.units + 1 + 200 < cLine by omega) rb h2 o2 ra h1 o1
  subst er
  refine PySem.W.keq_ne (knd := mixKind X.prog X.w) ya yb da db (by omega) (fun _ => hr) ⟨.bl _, H, I, rfl, ?_⟩
  rw [← ra.length, ← rb.length, Paired.length h1, Paired.length h2]
  exact q
def PDK (G : Gp) : List (Key × AV) → List (Key × PyData) → Prop := Paired fun p q => p.1 = q.1 ∧ PD G p.2 q.2
def fEqK (neg : Bool) : AF2 := fun x y G Q => onRef x fun a => onRef y fun b => ∃ ks ls kd ld, G a = some (.dK ks) ∧ G b = some (.dK ls) ∧ PDK G ks kd ∧ PDK G ls ld ∧ okKD kd ∧ okKD ld ∧ Q (.bl (if neg = true then !eqKD kd ld else eqKD kd ld)) G
theorem PDK.dp {K : PySem.W.Frag} {G : Gp} {H : Hp} (hg : SimG K G H) : ∀ {ks : List (Key × AV)} {kd : List (Key × PyData)} {ws : List (Key × V)}, PDK G ks kd → RKV K H ks ws → DpV K H ws kd
  | [], _, _, h, r => by cases h; rw [r.nil_inv]; exact .nil
  | p :: ks, _, _, h, r => by
    cases h with
    | cons h1 t1 =>
      obtain ⟨q, rs, rfl, e, rp, t⟩ := r.cons_inv
      exact .cons ⟨by rw [← e]; exact h1.1, PD.dp hg _ _ _ h1.2 rp⟩ (PDK.dp hg t1 t)
theorem lf_eqK {K : PySem.W.Frag} {neg : Bool} : Lift2 K (rEqK K neg) (fEqK neg) := by
  intro x y v w G H Q0 Q rx ry hg h hq
  cases rx with
  | ref a =>
    cases ry with
    | ref b =>
      obtain ⟨ks, ls, kd, ld, ea, eb, h1, h2, o1, o2, h⟩ := h
      obtain ⟨ws, hw, r1⟩ := hg _ _ ea
      obtain ⟨zs, hz, r2⟩ := hg _ _ eb
      exact ⟨a, b, ws, zs, kd, ld, rfl, rfl, hw, hz, h1.dp hg r1, h2.dp hg r2, o1, o2, hq _ _ _ _ h .refl hg (.bl _)⟩
    | _ => exact False.elim h
  | _ => exact False.elim h
theorem hu201 {A : Around} {k : Nat} (hr : Room (k + 1) A) : A.units + 201 < cLine := by have := hr.un; omega
theorem ae_eqK (hr : Room (k + 1) X.A) (ha : AE X W a ta) (hb : AE X W b tb) : AE X W (.Compare a [.Eq] [b] pos) (aOp2 (fEqK false) ta tb) := ae_cmp (op_eqK (hu201 hr)) lf_eqK ha hb
theorem ae_neK (hr : Room (k + 1) X.A) (ha : AE X W a ta) (hb : AE X W b tb) : AE X W (.Compare a [.NotEq] [b] pos) (aOp2 (fEqK true) ta tb) := ae_cmp (op_neK (hu201 hr)) lf_eqK ha hb
theorem at_eqK (hr : Room (k + 1) X.A) (ha : AE X W a ta) (hb : AE X W b tb) : ATest X W (.Compare a [.Eq] [b] pos) (aTest (aOp2 (fEqK false) ta tb)) := at_cmp (op_eqK (hu201 hr)) lf_eqK ha hb
theorem at_neK (hr : Room (k + 1) X.A) (ha : AE X W a ta) (hb : AE X W b tb) : ATest X W (.Compare a [.NotEq] [b] pos) (aTest (aOp2 (fEqK true) ta tb)) := at_cmp (op_neK (hu201 hr)) lf_eqK ha hb
end
/-! ### zip of two rows -/
def zipA (xs ys : List AV) : List AV := List.zipWith (fun x y => .tup [x, y]) xs ys
def zipR (vs : List AV) (G1 : Gp) (R : List AV → (Gp → Prop) → Gp → Prop) : Prop := match vs with
  | [.tup xs, .tup ys] => xs.length = ys.length ∧ R (zipA xs ys) (fun _ => True) G1
  | [.ref a, .ref b] => ∃ xs ys, G1 a = some (.lst xs) ∧ G1 b = some (.lst ys) ∧ xs.length = ys.length ∧ R (zipA xs ys) (fun G => G a = some (.lst xs) ∧ G b = some (.lst ys)) G1
  | _ => False
def srZip (t : ATA) : ASrc := fun ρ G R E => t ρ G (fun vs G1 => zipR vs G1 R) E
theorem zipA_get {xs ys : List AV} {i : Nat} {x y : AV} (h1 : xs[i]? = some x) (h2 : ys[i]? = some y) : (zipA xs ys)[i]? = some (.tup [x, y]) := by
  unfold zipA; rw [List.getElem?_zipWith, h1, h2]
theorem zipA_len {xs ys : List AV} (h : xs.length = ys.length) : (zipA xs ys).length = xs.length := by
  unfold zipA; rw [List.length_zipWith, ← h, Nat.min_self]
theorem RepL.getR {K : PySem.W.Frag} {H : Hp} {xs : List AV} {vs : List V} {i : Nat} {v : V} (r : RepL K H xs vs) (h : vs[i]? = some v) : ∃ x, xs[i]? = some x ∧ Rep K H x v := by
  have hlt : i < xs.length := by rw [← r.length]; exact (List.getElem?_eq_some_iff.mp h).1
  obtain ⟨v', h1, h2⟩ := r.get (i := i) (x := xs[i]) (by simp [hlt])
  rw [h] at h1; cases h1
  exact ⟨_, by simp [hlt], h2⟩
/-- a pair that is made for a turn -/
theorem zip_turn {K : PySem.W.Frag} {W : WW} {g : ATG} {tb : ATS} {D0 : AEnds} {D : Ends} {G : Gp} {H : Hp} {xs : List AV} {I : Nat → ASt → Gp → Prop} (hd : LEnds K W G H D0 D)
    (hst : ∀ i x ρ G, xs[i]? = some x → I i ρ G → g x ρ G (fun ρ2 G2 => tb { D0 with nx := I (i + 1), ct := I (i + 1), bk := D0.nx } ρ2 G2) D0.ex)
    {i : Nat} {x y : AV} {v u : V} {T : Addr} {σ : St} {H' : Hp} (hx : xs[i]? = some (.tup [x, y])) (p : PvI K G H I i σ H') (r1 : Rep K H' x v) (r2 : Rep K H' y u) (hT : H' T = none) :
    lowG K W g (.ref T) σ (upd H' T (.tup [v, u])) fun σ2 H2 => lowS K W tb { D with nx := PvI K G H I (i + 1), ct := PvI K G H I (i + 1), bk := D.nx } σ2 H2 := by
  obtain ⟨ρ', G', hs, hg, e, hI⟩ := p
  obtain ⟨ex, gx⟩ := ext_new (o := .tup [v, u]) hg hT
  exact loop_turn2 hd hst hx ⟨ρ', G', hs.up ex.toKept, gx, e.trans ex, hI⟩ (.tup upd_same (.cons (r1.up ex.toKept) (.cons (r2.up ex.toKept) .nil)))
section
variable {X : Cx} {W : WW} {body : List Stmt} {g : ATG} {tb : ATS} {pos tpos : Pos} {elts : List Expr} {kk : Nat}
theorem as_forZ {e e2 : Expr} {t : ATA} {p ps : Pos} (hm : X.mg "zip" = none) (hp : PassesOwn (model X.prog X.w) X.A X.env X.xe) (hc : X.calm = true) (ha : AArgs X W [e, e2] t) (hg : AG X W (.Tuple elts kk tpos) g) (hb : ASs X W body tb) (hgl : Gl X "zip" := by rfl)
    (hs : starEach [e, e2] X.env = (false, eval e X.env) :: starEach [e2] X.env := by rfl) (hpl : (backTo ps (starEach [e2] X.env)).any (·.1) = false := by rfl) : AS X W (.For (.Tuple elts kk tpos) (.Call (.Name "zip" p) [e, e2] [] ps) body [] pos) (aFor (srZip t) g tb) :=
  psI (ps_for hp hc (pi_zipA hgl hm ha hs hpl) hg hb) fun D σ H ⟨ρ, G, D0, hs, hg, h, hd⟩ => by
    refine ⟨ρ, G, _, _, hs, hg, h, ?_, hd.ex.at hs⟩
    intro xs G1 vs H1 h1 e1 g1 r1
    unfold zipR at h1
    split at h1
    · rename_i as bs
      obtain ⟨v1, v2, rfl, r1, r2⟩ := r1.two
      cases r1 with
      | tup ht1 hl1 =>
        cases r2 with
        | tup ht2 hl2 =>
          rename_i a vs1 b vs2
          obtain ⟨hlen, I, h0, _, hst, hdn⟩ := h1
          refine ⟨a, b, vs1, vs2, rfl, .inr ⟨SqT.of ht1, SqT.of ht2, ?_⟩⟩
          refine for_zipT (K := X.K) (a := a) (b := b) (xs := vs1) (ys := vs2) (by rw [hl1.length, hl2.length]; exact hlen) (PvI X.K G1 H1 I) ⟨ρ, G1, hs.up e1.toKept, g1, .refl, h0⟩ ?_ ?_ ?_
          · rintro i σ H' ⟨_, _, _, _, e, _⟩
            exact ⟨SqT.of (e.tups _ _ ht1), SqT.of (e.tups _ _ ht2)⟩
          · intro i v u T σ H' hv hu p hT
            obtain ⟨x, hx, rx⟩ := hl1.getR hv
            obtain ⟨y, hy, ry⟩ := hl2.getR hu
            obtain ⟨ρ', G', hs', hg', e', hI⟩ := id p
            exact zip_turn (hd.up e1) hst (zipA_get hx hy) p (rx.up e'.toKept) (ry.up e'.toKept) hT
          · intro σ H' p
            obtain ⟨ρ', G', hs', hg', e', hI⟩ := p
            rw [hl1.length, ← zipA_len hlen] at hI
            exact (hd.up e1).nx _ _ _ _ (hdn _ _ hI) e' hg' hs'
    · rename_i a b
      obtain ⟨v1, v2, rfl, r1, r2⟩ := r1.two
      cases r1; cases r2
      obtain ⟨as, bs, ea, eb, hlen, I, h0, hal, hst, hdn⟩ := h1
      obtain ⟨vs1, hv1, hl1⟩ := g1 _ _ ea
      obtain ⟨vs2, hv2, hl2⟩ := g1 _ _ eb
      refine ⟨a, b, vs1, vs2, rfl, .inl ⟨SqL.of hv1, SqL.of hv2, fun i m σ H' => m = as.length - i ∧ i ≤ as.length ∧ PvI X.K G1 H1 I i σ H', ⟨_, rfl, Nat.zero_le _, ρ, G1, hs.up e1.toKept, g1, .refl, h0⟩, ?_⟩⟩
      rintro i m σ H' ⟨rfl, hi, p⟩
      obtain ⟨ρ', G', hs', hg', e', hI⟩ := id p
      obtain ⟨q1, q2⟩ := hal _ _ _ hI
      obtain ⟨ws1, hw1, hm1⟩ := hg' _ _ q1
      obtain ⟨ws2, hw2, hm2⟩ := hg' _ _ q2
      by_cases hlt : i < as.length
      · have hlt2 : i < bs.length := by omega
        obtain ⟨v, hv, rx⟩ := hm1.get (i := i) (x := as[i]) (by simp [hlt])
        obtain ⟨u, hu, ry⟩ := hm2.get (i := i) (x := bs[i]) (by simp [hlt2])
        refine .inr ⟨⟨ws1, ws2, v, u, SqL.of hw1, SqL.of hw2, hv, hu⟩, PvI X.K G1 H1 I (i + 1), fun σ' H2 p' => ⟨as.length - (i + 1), by omega, rfl, hlt, p'⟩, ?_⟩
        rintro z H2 ⟨T, x', y', rfl, hT, rfl, f1, f2⟩
        have e1' := f1 ws1 (SqL.of hw1)
        have e2' := f2 ws2 (SqL.of hw2)
        rw [hv] at e1'; cases e1'
        rw [hu] at e2'; cases e2'
        exact zip_turn (hd.up e1) hst (zipA_get (by simp [hlt]) (by simp [hlt2])) ⟨ρ', G', hs', hg', e', hI⟩ rx ry hT
      · have ei : i = as.length := by omega
        subst ei
        refine .inl ⟨⟨ws1, ws2, SqL.of hw1, SqL.of hw2, .inl (by rw [hm1.length]; exact Nat.le_refl _)⟩, ?_⟩
        rw [← zipA_len hlen] at hI
        exact (hd.up e1).nx _ _ _ _ (hdn _ _ hI) e' hg' hs'
    · exact h1.elim
end
section
variable {G : Gp} {Q : AK} {a b : Addr} {y z : AV} {i : Int} {s : Str} {neg : Bool} {P : Gp → Prop}
theorem zipR_tup {xs ys : List AV} {R : List AV → (Gp → Prop) → Gp → Prop} : zipR [.tup xs, .tup ys] G R = (xs.length = ys.length ∧ R (zipA xs ys) (fun _ => True) G) := rfl
theorem zipR_ref {R : List AV → (Gp → Prop) → Gp → Prop} : zipR [.ref a, .ref b] G R = ∃ xs ys, G a = some (.lst xs) ∧ G b = some (.lst ys) ∧ xs.length = ys.length ∧ R (zipA xs ys) (fun G => G a = some (.lst xs) ∧ G b = some (.lst ys)) G := rfl
theorem atI_zero {x : AV} {xs : List AV} : atI (x :: xs) 0 = some x := by
  unfold atI ixN
  simp
theorem keyA_int : keyA (.int i) = some (.inl i) := rfl
theorem keyA_str : keyA (.str s) = some (.inr s) := rfl
theorem fDGet_ref : fDGet (.ref a) y G Q = ∃ kvs k v, G a = some (.dK kvs) ∧ keyA y = some k ∧ valA kvs k = some v ∧ Q v G := rfl
theorem fDIn_ref : fDIn neg y (.ref a) G Q = ∃ kvs k, G a = some (.dK kvs) ∧ keyA y = some k ∧ Q (.bl (if neg = true then !(valA kvs k).isSome else (valA kvs k).isSome)) G := rfl
theorem fDGet2_ref : fDGet2 (.ref a) y z G Q = ∃ kvs k, G a = some (.dK kvs) ∧ keyA y = some k ∧ Q ((valA kvs k).getD z) G := rfl
theorem isDA_ref : isDA (.ref a) G = ∃ kvs, G a = some (.dK kvs) := rfl
theorem fSetD_ref : fSetD (.ref a) y z G P = ∃ kvs k, G a = some (.dK kvs) ∧ keyA y = some k ∧ kvs.length < sizeLine ∧ P (gset G a (.dK (putA kvs k z))) := rfl
theorem fDict1_ref : fDict1 [.ref a] G Q = ∃ kvs, G a = some (.dK kvs) ∧ ∀ p G', New G p (.dK kvs) G' → Q (.ref p) G' := rfl
theorem fListD_ref : fListD [.ref a] G Q = ∃ kvs, G a = some (.dK kvs) ∧ ∀ p G', New G p (.lst (kvs.map fun kv => kA kv.1)) G' → Q (.ref p) G' := rfl
theorem fEqK_ref : fEqK neg (.ref a) (.ref b) G Q = ∃ ks ls kd ld, G a = some (.dK ks) ∧ G b = some (.dK ls) ∧ PDK G ks kd ∧ PDK G ls ld ∧ okKD kd ∧ okKD ld ∧ Q (.bl (if neg = true then !eqKD kd ld else eqKD kd ld)) G := rfl
end
end Rw
namespace Rw
open PySem L2
theorem dq {Q : AK} {x : AV} {G : Gp} (h : Q x G) : dropQ Q x G := ⟨G, .refl, h⟩
theorem dqs {Q : AK} {x : AV} {G G' : Gp} (h : Q x G') (s : GSub G' G) : dropQ Q x G := ⟨G', s, h⟩
theorem de {E : AX} {c : Value} {G : Gp} (h : E c G) : dropE E c G := ⟨G, .refl, h⟩
theorem GSub.trans {A B C : Gp} (h : GSub A B) (k : GSub B C) : GSub A C := fun a o e => k a o (h a o e)
theorem GSub.new {G : Gp} {p : Addr} {o : GO} (hp : G p = none) : GSub G (gset G p o) := fun a u h => by
  rw [gset_ne (fun e => by rw [e, hp] at h; cases h)]; exact h
theorem GSub.set {G G' : Gp} {p : Addr} {o : GO} (h : GSub G G') : GSub (gset G p o) (gset G' p o) := fun a u e => by
  by_cases hp : a = p
  · subst hp; rw [gset_same] at e ⊢; exact e
  · rw [gset_ne hp] at e ⊢; exact h a u e
theorem GSub.new' {G G' : Gp} {p : Addr} {o : GO} (h : GSub G G') (hp : G p = none) : GSub G (gset G' p o) := fun a u e => by
  rw [gset_ne (fun z => by rw [z, hp] at e; cases e)]; exact h a u e
theorem GSub.none {G G' : Gp} (h : GSub G G') {a : Addr} (n : G' a = none) : G a = none := by
  cases q : G a with
  | none => rfl
  | some o => rw [h a o q] at n; cases n
theorem gset_none {G : Gp} {a p : Addr} {o : GO} (h : gset G p o a = none) : G a = none ∧ a ≠ p := by
  by_cases hp : a = p
  · subst hp; rw [gset_same] at h; cases h
  · rw [gset_ne hp] at h; exact ⟨h, hp⟩
theorem gset_gset {G : Gp} {a : Addr} {o u : GO} : gset (gset G a o) a u = gset G a u := by
  funext b; unfold gset; split <;> rfl
theorem gne {G : Gp} {a b : Addr} {o : GO} (h : G a = some o) (n : G b = none) : a ≠ b := by
  intro e; subst e; rw [h] at n; cases n
theorem New.sub {G G' : Gp} {p : Addr} {o : GO} (h : New G p o G') : GSub G G' := fun _ _ e => h.keep e
theorem gkeep {G : Gp} {p b : Addr} {o u : GO} (e : G b = some u) (n : G p = none) : gset G p o b = some u := by rw [gset_ne (gne e n)]; exact e
theorem szl {n : Nat} (h : n ≤ 1000 := by decide) : n ≤ sizeLine := Nat.le_of_lt (small1000 h)
theorem szn {n : Nat} (h : n ≤ 1000 := by decide) : n < sizeLine := small1000 h
theorem cutA_1 {α : Type} (x : α) (xs : List α) : cutA (x :: xs) (some 1) none = xs := by
  unfold cutA HT.sIx
  simp
theorem cutA_from {α : Type} (xs : List α) (n : Nat) : cutA xs (some (n : Int)) none = xs.drop n := by
  unfold cutA
  rw [HT.sIx_nat, HT.sIx_none]
  by_cases h : n ≤ xs.length
  · rw [Nat.min_eq_left h, List.take_of_length_le (by rw [List.length_drop]; exact Nat.le_refl _)]
  · rw [Nat.min_eq_right (by omega), List.drop_eq_nil_of_le (by omega : xs.length ≤ xs.length), List.drop_eq_nil_of_le (by omega : xs.length ≤ n), List.take_nil]
theorem cutA_to {α : Type} (xs : List α) (n : Nat) : cutA xs none (some (n : Int)) = xs.take n := by
  unfold cutA
  rw [HT.sIx_nat, HT.sIx_none, List.drop_zero, Nat.sub_zero]
  by_cases h : n ≤ xs.length
  · rw [Nat.min_eq_left h]
  · rw [Nat.min_eq_right (by omega), List.take_length, List.take_of_length_le (by omega)]
theorem cutA_toK {α : Type} {xs : List α} {k : Int} (n : Nat) (e : k = (n : Int)) : cutA xs none (some k) = xs.take n := by rw [e, cutA_to]
theorem cutA_fromK {α : Type} {xs : List α} {k : Int} (n : Nat) (e : k = (n : Int)) : cutA xs (some k) none = xs.drop n := by rw [e, cutA_from]
/-- a comprehension whose elements are reckoned without a trace -/
theorem lcI_pure {bind : AV → ASt → ASt → Prop} {te : AT} {xs : List AV} {al : Gp → Prop} {ρ : ASt} {G : Gp} {Q : AK} (ys : List AV) (hl : ys.length = xs.length) (hz : xs.length ≤ sizeLine) (hal : al G) (hb : ∀ x, x ∈ xs → ∃ ρ2, bind x ρ ρ2)
    (hs : ∀ (i : Nat) x y, xs[i]? = some x → ys[i]? = some y → ∀ ρ2, bind x ρ ρ2 → ∀ Q : AK, Q y G → te ρ2 G Q fun _ _ => False)
    (hq : ∀ p G', New G p (.lst ys) G' → Q (.ref p) G') : lcI bind aYes te xs al ρ G Q := by
  refine ⟨fun i acc G' => G' = G ∧ acc = ys.take i, ⟨rfl, by simp⟩, ?_, ?_, ?_⟩
  · rintro i acc G' ⟨rfl, _⟩; exact hal
  · rintro i x acc G' hx ⟨rfl, rfl⟩
    have hi : i < xs.length := (List.getElem?_eq_some_iff.mp hx).1
    refine ⟨hb x (List.mem_of_getElem? hx), fun ρ2 h2 => ?_⟩
    unfold aYes
    simp only [if_true]
    have hy : ys[i]? = some (ys[i]'(by omega)) := by simp [hl, hi]
    refine hs i x _ hx hy ρ2 h2 _ ⟨?_, rfl, ?_⟩
    · rw [List.length_take]; omega
    · rw [List.take_add_one, hy]; rfl
  · rintro acc G' ⟨rfl, rfl⟩ p G2 hp
    rw [← hl, List.take_length] at hp
    exact hq p G2 hp
/-- a comprehension with a test, without a trace -/
theorem lcI_filter {α : Type} {f : α → AV} {zs : List α} {bind : AV → ASt → ASt → Prop} {tt : ATT} {te : AT} {al : Gp → Prop} {ρ : ASt} {G : Gp} {Q : AK} (p : α → Bool) (g : α → AV) (hz : zs.length ≤ sizeLine) (hal : al G) (hb : ∀ z, z ∈ zs → ∃ ρ2, bind (f z) ρ ρ2)
    (ht : ∀ z, z ∈ zs → ∀ ρ2, bind (f z) ρ ρ2 → ∀ Qb : Bool → Gp → Prop, Qb (p z) G → tt ρ2 G Qb fun _ _ => False)
    (he : ∀ z, z ∈ zs → p z = true → ∀ ρ2, bind (f z) ρ ρ2 → ∀ Q : AK, Q (g z) G → te ρ2 G Q fun _ _ => False)
    (hq : ∀ p' G', New G p' (.lst ((zs.filter p).map g)) G' → Q (.ref p') G') : lcI bind tt te (zs.map f) al ρ G Q := by
  refine ⟨fun i acc G' => G' = G ∧ acc = ((zs.take i).filter p).map g, ⟨rfl, by simp⟩, ?_, ?_, ?_⟩
  · rintro i acc G' ⟨rfl, _⟩; exact hal
  · rintro i x acc G' hx ⟨rfl, rfl⟩
    obtain ⟨z, hz', rfl⟩ : ∃ z, zs[i]? = some z ∧ x = f z := by
      rw [List.getElem?_map] at hx
      cases e : zs[i]? with
      | none => rw [e] at hx; cases hx
      | some z => rw [e] at hx; cases hx; exact ⟨z, rfl, rfl⟩
    have hm := List.mem_of_getElem? hz'
    have hi : i < zs.length := (List.getElem?_eq_some_iff.mp hz').1
    refine ⟨hb z hm, fun ρ2 h2 => ht z hm ρ2 h2 _ ?_⟩
    have e1 : zs.take (i + 1) = zs.take i ++ [z] := by rw [List.take_add_one, hz']; rfl
    cases hp : p z with
    | false =>
      simp only [Bool.false_eq_true, if_false]
      refine ⟨trivial, ?_⟩
      rw [e1, List.filter_append, List.filter_cons, hp]
      simp
    | true =>
      simp only [if_true]
      refine he z hm hp ρ2 h2 _ ⟨?_, rfl, ?_⟩
      · rw [List.length_map]
        have := List.length_filter_le p (zs.take i)
        rw [List.length_take] at this
        omega
      · rw [e1, List.filter_append, List.filter_cons, hp]
        simp
  · rintro acc G' ⟨rfl, rfl⟩ p' G2 hp
    rw [List.length_map, List.take_length] at hp
    exact hq p' G2 hp
theorem bd_name {i : Nat} {vs : List Nat} {x : AV} {ρ : ASt} : ∃ ρ2, bdName i vs x ρ ρ2 := ⟨_, rfl⟩
theorem map_get {α β : Type} {f : α → β} {ts : List α} {i : Nat} {x : β} (h : (ts.map f)[i]? = some x) : ∃ t, ts[i]? = some t ∧ x = f t := by
  rw [List.getElem?_map] at h
  cases e : ts[i]? with
  | none => rw [e] at h; cases h
  | some t => rw [e] at h; cases h; exact ⟨t, rfl, rfl⟩
/-! promises by the number of arguments -/
abbrev P1 := AV → Gp → AK → AX → Prop
def sp1 (p : P1) : ASp := fun xs G Q E => match xs with | [x1] => p x1 G Q E | _ => False
theorem DefAt.ok1 {P : Program} {w : World} {K : PySem.W.Frag} {mg : Str → Option Value} {base : Heap} {x : Str} {st : Stmt} {N ps : List Str} {k : Nat} {p : P1} (T : DefAt K mg x st ps) (S : FnScope N ps (defScope st)) (hl : ps.length = 1)
    (hbody : ∀ (f : Addr) (cdv : Value) (A : Around) (outer : List Env) (s : Shared) (H : Hp) (E : XK) (W : WW), Tk (bX P w K mg base N x st f cdv A outer s H E) W →
      PassesOwn (model P w) (bX P w K mg base N x st f cdv A outer s H E).A (bX P w K mg base N x st f cdv A outer s H E).env (bX P w K mg base N x st f cdv A outer s H E).xe →
      Room k (bX P w K mg base N x st f cdv A outer s H E).A → ∀ x1 G Q0 E0, p x1 G Q0 E0 →
      ∃ t, ASs (bX P w K mg base N x st f cdv A outer s H E) W (defBody st) t ∧ t { nx := fun _ G' => dropQ Q0 .non G', rt := dropQ Q0, ex := fun c _ G' => dropE E0 c G' } (startA N [x1]) G) :
    DefOk P w K mg base (k + 1) x (sp1 p) := by
  refine T.ok S (fun xs G Q E h => ?_) (fun f cdv A outer s H E W tk pw hr xs G Q0 E0 h => ?_)
  · unfold sp1 at h; split at h
    · exact hl.symm
    · exact h.elim
  · unfold sp1 at h; split at h
    · exact hbody f cdv A outer s H E W tk pw hr _ G Q0 E0 h
    · exact h.elim
abbrev P2 := AV → AV → Gp → AK → AX → Prop
def sp2 (p : P2) : ASp := fun xs G Q E => match xs with | [x1, x2] => p x1 x2 G Q E | _ => False
theorem DefAt.ok2 {P : Program} {w : World} {K : PySem.W.Frag} {mg : Str → Option Value} {base : Heap} {x : Str} {st : Stmt} {N ps : List Str} {k : Nat} {p : P2} (T : DefAt K mg x st ps) (S : FnScope N ps (defScope st)) (hl : ps.length = 2)
    (hbody : ∀ (f : Addr) (cdv : Value) (A : Around) (outer : List Env) (s : Shared) (H : Hp) (E : XK) (W : WW), Tk (bX P w K mg base N x st f cdv A outer s H E) W →
      PassesOwn (model P w) (bX P w K mg base N x st f cdv A outer s H E).A (bX P w K mg base N x st f cdv A outer s H E).env (bX P w K mg base N x st f cdv A outer s H E).xe →
      Room k (bX P w K mg base N x st f cdv A outer s H E).A → ∀ x1 x2 G Q0 E0, p x1 x2 G Q0 E0 →
      ∃ t, ASs (bX P w K mg base N x st f cdv A outer s H E) W (defBody st) t ∧ t { nx := fun _ G' => dropQ Q0 .non G', rt := dropQ Q0, ex := fun c _ G' => dropE E0 c G' } (startA N [x1, x2]) G) :
    DefOk P w K mg base (k + 1) x (sp2 p) := by
  refine T.ok S (fun xs G Q E h => ?_) (fun f cdv A outer s H E W tk pw hr xs G Q0 E0 h => ?_)
  · unfold sp2 at h; split at h
    · exact hl.symm
    · exact h.elim
  · unfold sp2 at h; split at h
    · exact hbody f cdv A outer s H E W tk pw hr _ _ G Q0 E0 h
    · exact h.elim
abbrev P3 := AV → AV → AV → Gp → AK → AX → Prop
def sp3 (p : P3) : ASp := fun xs G Q E => match xs with | [x1, x2, x3] => p x1 x2 x3 G Q E | _ => False
theorem DefAt.ok3 {P : Program} {w : World} {K : PySem.W.Frag} {mg : Str → Option Value} {base : Heap} {x : Str} {st : Stmt} {N ps : List Str} {k : Nat} {p : P3} (T : DefAt K mg x st ps) (S : FnScope N ps (defScope st)) (hl : ps.length = 3)
    (hbody : ∀ (f : Addr) (cdv : Value) (A : Around) (outer : List Env) (s : Shared) (H : Hp) (E : XK) (W : WW), Tk (bX P w K mg base N x st f cdv A outer s H E) W →
      PassesOwn (model P w) (bX P w K mg base N x st f cdv A outer s H E).A (bX P w K mg base N x st f cdv A outer s H E).env (bX P w K mg base N x st f cdv A outer s H E).xe →
      Room k (bX P w K mg base N x st f cdv A outer s H E).A → ∀ x1 x2 x3 G Q0 E0, p x1 x2 x3 G Q0 E0 →
      ∃ t, ASs (bX P w K mg base N x st f cdv A outer s H E) W (defBody st) t ∧ t { nx := fun _ G' => dropQ Q0 .non G', rt := dropQ Q0, ex := fun c _ G' => dropE E0 c G' } (startA N [x1, x2, x3]) G) :
    DefOk P w K mg base (k + 1) x (sp3 p) := by
  refine T.ok S (fun xs G Q E h => ?_) (fun f cdv A outer s H E W tk pw hr xs G Q0 E0 h => ?_)
  · unfold sp3 at h; split at h
    · exact hl.symm
    · exact h.elim
  · unfold sp3 at h; split at h
    · exact hbody f cdv A outer s H E W tk pw hr _ _ _ G Q0 E0 h
    · exact h.elim
abbrev P4 := AV → AV → AV → AV → Gp → AK → AX → Prop
def sp4 (p : P4) : ASp := fun xs G Q E => match xs with | [x1, x2, x3, x4] => p x1 x2 x3 x4 G Q E | _ => False
theorem DefAt.ok4 {P : Program} {w : World} {K : PySem.W.Frag} {mg : Str → Option Value} {base : Heap} {x : Str} {st : Stmt} {N ps : List Str} {k : Nat} {p : P4} (T : DefAt K mg x st ps) (S : FnScope N ps (defScope st)) (hl : ps.length = 4)
    (hbody : ∀ (f : Addr) (cdv : Value) (A : Around) (outer : List Env) (s : Shared) (H : Hp) (E : XK) (W : WW), Tk (bX P w K mg base N x st f cdv A outer s H E) W →
      PassesOwn (model P w) (bX P w K mg base N x st f cdv A outer s H E).A (bX P w K mg base N x st f cdv A outer s H E).env (bX P w K mg base N x st f cdv A outer s H E).xe →
      Room k (bX P w K mg base N x st f cdv A outer s H E).A → ∀ x1 x2 x3 x4 G Q0 E0, p x1 x2 x3 x4 G Q0 E0 →
      ∃ t, ASs (bX P w K mg base N x st f cdv A outer s H E) W (defBody st) t ∧ t { nx := fun _ G' => dropQ Q0 .non G', rt := dropQ Q0, ex := fun c _ G' => dropE E0 c G' } (startA N [x1, x2, x3, x4]) G) :
    DefOk P w K mg base (k + 1) x (sp4 p) := by
  refine T.ok S (fun xs G Q E h => ?_) (fun f cdv A outer s H E W tk pw hr xs G Q0 E0 h => ?_)
  · unfold sp4 at h; split at h
    · exact hl.symm
    · exact h.elim
  · unfold sp4 at h; split at h
    · exact hbody f cdv A outer s H E W tk pw hr _ _ _ _ G Q0 E0 h
    · exact h.elim
abbrev P5 := AV → AV → AV → AV → AV → Gp → AK → AX → Prop
def sp5 (p : P5) : ASp := fun xs G Q E => match xs with | [x1, x2, x3, x4, x5] => p x1 x2 x3 x4 x5 G Q E | _ => False
theorem DefAt.ok5 {P : Program} {w : World} {K : PySem.W.Frag} {mg : Str → Option Value} {base : Heap} {x : Str} {st : Stmt} {N ps : List Str} {k : Nat} {p : P5} (T : DefAt K mg x st ps) (S : FnScope N ps (defScope st)) (hl : ps.length = 5)
    (hbody : ∀ (f : Addr) (cdv : Value) (A : Around) (outer : List Env) (s : Shared) (H : Hp) (E : XK) (W : WW), Tk (bX P w K mg base N x st f cdv A outer s H E) W →
      PassesOwn (model P w) (bX P w K mg base N x st f cdv A outer s H E).A (bX P w K mg base N x st f cdv A outer s H E).env (bX P w K mg base N x st f cdv A outer s H E).xe →
      Room k (bX P w K mg base N x st f cdv A outer s H E).A → ∀ x1 x2 x3 x4 x5 G Q0 E0, p x1 x2 x3 x4 x5 G Q0 E0 →
      ∃ t, ASs (bX P w K mg base N x st f cdv A outer s H E) W (defBody st) t ∧ t { nx := fun _ G' => dropQ Q0 .non G', rt := dropQ Q0, ex := fun c _ G' => dropE E0 c G' } (startA N [x1, x2, x3, x4, x5]) G) :
    DefOk P w K mg base (k + 1) x (sp5 p) := by
  refine T.ok S (fun xs G Q E h => ?_) (fun f cdv A outer s H E W tk pw hr xs G Q0 E0 h => ?_)
  · unfold sp5 at h; split at h
    · exact hl.symm
    · exact h.elim
  · unfold sp5 at h; split at h
    · exact hbody f cdv A outer s H E W tk pw hr _ _ _ _ _ G Q0 E0 h
    · exact h.elim
abbrev P6 := AV → AV → AV → AV → AV → AV → Gp → AK → AX → Prop
def sp6 (p : P6) : ASp := fun xs G Q E => match xs with | [x1, x2, x3, x4, x5, x6] => p x1 x2 x3 x4 x5 x6 G Q E | _ => False
theorem DefAt.ok6 {P : Program} {w : World} {K : PySem.W.Frag} {mg : Str → Option Value} {base : Heap} {x : Str} {st : Stmt} {N ps : List Str} {k : Nat} {p : P6} (T : DefAt K mg x st ps) (S : FnScope N ps (defScope st)) (hl : ps.length = 6)
    (hbody : ∀ (f : Addr) (cdv : Value) (A : Around) (outer : List Env) (s : Shared) (H : Hp) (E : XK) (W : WW), Tk (bX P w K mg base N x st f cdv A outer s H E) W →
      PassesOwn (model P w) (bX P w K mg base N x st f cdv A outer s H E).A (bX P w K mg base N x st f cdv A outer s H E).env (bX P w K mg base N x st f cdv A outer s H E).xe →
      Room k (bX P w K mg base N x st f cdv A outer s H E).A → ∀ x1 x2 x3 x4 x5 x6 G Q0 E0, p x1 x2 x3 x4 x5 x6 G Q0 E0 →
      ∃ t, ASs (bX P w K mg base N x st f cdv A outer s H E) W (defBody st) t ∧ t { nx := fun _ G' => dropQ Q0 .non G', rt := dropQ Q0, ex := fun c _ G' => dropE E0 c G' } (startA N [x1, x2, x3, x4, x5, x6]) G) :
    DefOk P w K mg base (k + 1) x (sp6 p) := by
  refine T.ok S (fun xs G Q E h => ?_) (fun f cdv A outer s H E W tk pw hr xs G Q0 E0 h => ?_)
  · unfold sp6 at h; split at h
    · exact hl.symm
    · exact h.elim
  · unfold sp6 at h; split at h
    · exact hbody f cdv A outer s H E W tk pw hr _ _ _ _ _ _ G Q0 E0 h
    · exact h.elim
end Rw
/-! what draws make: dice, names, signs, terms over signs -/
namespace Rw
open PySem L2

/-! ### dice -/
def IsDice (ns : List Int) (D : List AV) : Prop := ∃ x k g : Int, D = [.int x, .ro ns, .int k, .int g] ∧ 0 ≤ x ∧ x < 2147483647 ∧ 0 ≤ k ∧ 0 ≤ g
/-- the dice at a turned, all else kept -/
structure DS (ns : List Int) (a : Addr) (G G' : Gp) : Prop where
  at_ : ∃ D, G' a = some (.lst D) ∧ IsDice ns D
  keep : ∀ b o, b ≠ a → G b = some o → G' b = some o
def DiceAt (ns : List Int) (a : Addr) (G : Gp) : Prop := ∃ D, G a = some (.lst D) ∧ IsDice ns D
theorem DS.refl {ns : List Int} {a : Addr} {G : Gp} (h : DiceAt ns a G) : DS ns a G G := ⟨h, fun _ _ _ e => e⟩
theorem DS.trans {ns : List Int} {a : Addr} {G G1 G2 : Gp} (h : DS ns a G G1) (k : DS ns a G1 G2) : DS ns a G G2 := ⟨k.at_, fun b o hb e => k.keep b o hb (h.keep b o hb e)⟩
theorem DS.new {ns : List Int} {a p : Addr} {G G1 : Gp} {o : GO} (h : DS ns a G G1) (n : G1 p = none) : DS ns a G (gset G1 p o) := by
  obtain ⟨D, e, i⟩ := h.at_
  have ha : a ≠ p := gne e n
  refine ⟨⟨D, by rw [gset_ne ha]; exact e, i⟩, fun b u hb e' => ?_⟩
  have e1 := h.keep b u hb e'
  rw [gset_ne (gne e1 n)]
  exact e1
theorem DS.newN {ns : List Int} {a p : Addr} {G G1 G2 : Gp} {o : GO} (h : DS ns a G G1) (n : New G1 p o G2) : DS ns a G G2 := by
  rw [n.eq]; exact h.new n.free
theorem DS.neN {ns : List Int} {a p : Addr} {G G1 G2 : Gp} {o : GO} (h : DS ns a G G1) (n : New G1 p o G2) : p ≠ a := by
  obtain ⟨D, e, _⟩ := h.at_
  exact (n.ne e).symm
theorem DS.over {ns : List Int} {a p : Addr} {G G1 : Gp} {o : GO} (h : DS ns a G G1) (hp : p ≠ a) (n : G p = none) : DS ns a G (gset G1 p o) := by
  obtain ⟨D, e, i⟩ := h.at_
  refine ⟨⟨D, by rw [gset_ne (Ne.symm hp)]; exact e, i⟩, fun b u hb e' => ?_⟩
  rw [gset_ne (gne e' n)]
  exact h.keep b u hb e'
theorem DS.set {ns : List Int} {a : Addr} {G : Gp} {D : List AV} (h : IsDice ns D) : DS ns a G (gset G a (.lst D)) := ⟨⟨D, gset_same, h⟩, fun b o hb e => by rw [gset_ne hb]; exact e⟩
theorem DS.none {ns : List Int} {a : Addr} {G G' : Gp} (h : DS ns a G G') {p : Addr} (n : G' p = none) : G p = none := by
  cases q : G p with
  | none => rfl
  | some o =>
    by_cases hp : p = a
    · obtain ⟨D, e, _⟩ := h.at_
      rw [hp, e] at n; cases n
    · rw [h.keep p o hp q] at n; cases n

/-- a comprehension whose elements draw -/
theorem lcI_dice {bind : AV → ASt → ASt → Prop} {te : AT} {xs : List AV} {al : Gp → Prop} {ρ : ASt} {G : Gp} {Q : AK} {ns : List Int} {a : Addr} (R : Nat → AV → Prop) (hd : DiceAt ns a G) (hal : ∀ G', DS ns a G G' → al G')
    (hb : ∀ x, x ∈ xs → ∃ ρ2, bind x ρ ρ2) (hz : xs.length ≤ sizeLine)
    (hs : ∀ (i : Nat) x G', xs[i]? = some x → DS ns a G G' → ∀ ρ2, bind x ρ ρ2 → ∀ Q : AK, (∀ y G'', R i y → DS ns a G' G'' → Q y G'') → te ρ2 G' Q fun _ _ => False)
    (hq : ∀ acc G', acc.length = xs.length → (∀ (i : Nat) y, acc[i]? = some y → R i y) → DS ns a G G' → ∀ p G2, New G' p (.lst acc) G2 → Q (.ref p) G2) : lcI bind aYes te xs al ρ G Q := by
  refine ⟨fun i acc G' => DS ns a G G' ∧ acc.length = i ∧ ∀ (j : Nat) y, acc[j]? = some y → R j y, ⟨.refl hd, rfl, fun j y e => by simp at e⟩, fun i acc G' h => hal G' h.1, ?_, fun acc G' h p G2 hp => hq acc G' h.2.1 h.2.2 h.1 p G2 hp⟩
  rintro i x acc G' hx ⟨h1, rfl, h3⟩
  refine ⟨hb x (List.mem_of_getElem? hx), fun ρ2 h2 => ?_⟩
  unfold aYes
  simp only [if_true]
  have hi : acc.length < xs.length := (List.getElem?_eq_some_iff.mp hx).1
  refine hs _ x G' hx h1 ρ2 h2 _ fun y G'' hR h4 => ⟨by omega, h1.trans h4, by simp, fun j z e => ?_⟩
  by_cases hj : j < acc.length
  · rw [List.getElem?_append_left hj] at e; exact h3 j z e
  · rw [List.getElem?_append_right (by omega)] at e
    have hj2 : j - acc.length = 0 := by
      have := (List.getElem?_eq_some_iff.mp e).1
      simp at this; omega
    rw [hj2] at e
    simp at e
    subst e
    have : j = acc.length := by omega
    subst this
    exact hR
theorem acc_map {α : Type} {f : α → AV} {C : α → Prop} : ∀ {acc : List AV}, (∀ (i : Nat) y, acc[i]? = some y → ∃ c, C c ∧ y = f c) → ∃ bs : List α, acc = bs.map f ∧ ∀ c ∈ bs, C c
  | [], _ => ⟨[], rfl, fun _ h => nomatch h⟩
  | y :: acc, h => by
    obtain ⟨c, hc, rfl⟩ := h 0 y rfl
    obtain ⟨bs, rfl, hb⟩ := acc_map (acc := acc) (f := f) (C := C) fun i z e => h (i + 1) z (by simpa using e)
    exact ⟨c :: bs, rfl, fun d hd => by rcases List.mem_cons.mp hd with rfl | hd; exact hc; exact hb d hd⟩
/-! ### names -/
def sOf (a : List Nat) : Str := ⟨a.toArray⟩
theorem sOf_len (a : List Nat) : (sOf a).length = a.length := by show a.toArray.size = _; simp
theorem sOf_inj {a b : List Nat} (h : sOf a = sOf b) : a = b := by
  have : a.toArray = b.toArray := congrArg Str.cps h
  simpa using this
theorem sOf_app (a b : List Nat) : sOf a ++ sOf b = sOf (a ++ b) := by
  show (⟨a.toArray ++ b.toArray⟩ : Str) = ⟨(a ++ b).toArray⟩
  simp
def isLow (c : Nat) : Prop := 97 ≤ c ∧ c ≤ 122
def NameOk (x : Str) : Prop := ∃ a : List Nat, x = sOf a ∧ 1 ≤ a.length ∧ a.length ≤ 8 ∧ ∀ c ∈ a, isLow c
/-- the k-th name -/
def tailOf (tl : Bool) (k : Nat) : List Nat := if tl = true then List.replicate (k % 3) 122 else []
def letOf (turn : Int) (k : Nat) : Nat := 97 + ((turn + 7 * (k : Int)) % 26).toNat
def nmOf (base : List Nat) (at_ : Nat) (turn : Int) (tl : Bool) (k : Nat) : List Nat := base.set at_ (letOf turn k) ++ tailOf tl k
theorem letOf_low (turn : Int) (k : Nat) : isLow (letOf turn k) := by
  unfold letOf isLow
  have h1 := Int.emod_nonneg (turn + 7 * (k : Int)) (show (26 : Int) ≠ 0 by decide)
  have h2 := Int.emod_lt_of_pos (turn + 7 * (k : Int)) (show (0 : Int) < 26 by decide)
  omega
theorem letOf_inj {turn : Int} {i j : Nat} (hi : i < 26) (hj : j < 26) (h : letOf turn i = letOf turn j) : i = j := by
  unfold letOf at h
  omega
theorem nmOf_ok {base : List Nat} {at_ : Nat} {turn : Int} {tl : Bool} {k : Nat} (h1 : 1 ≤ base.length) (h6 : base.length ≤ 6) (hb : ∀ c ∈ base, isLow c) : NameOk (sOf (nmOf base at_ turn tl k)) := by
  refine ⟨_, rfl, ?_, ?_, ?_⟩
  · unfold nmOf; rw [List.length_append, List.length_set]; omega
  · unfold nmOf tailOf
    rw [List.length_append, List.length_set]
    have : k % 3 < 3 := Nat.mod_lt _ (by decide)
    split
    · rw [List.length_replicate]; omega
    · simp; omega
  · intro c hc
    unfold nmOf at hc
    rcases List.mem_append.mp hc with hc | hc
    · rcases List.mem_or_eq_of_mem_set hc with hc | rfl
      · exact hb c hc
      · exact letOf_low _ _
    · unfold tailOf at hc
      split at hc
      · rw [List.mem_replicate] at hc
        rw [hc.2]; exact ⟨by decide, by decide⟩
      · cases hc
theorem nmOf_inj {base : List Nat} {at_ : Nat} {turn : Int} {tl : Bool} {i j : Nat} (ha : at_ < base.length) (hi : i < 26) (hj : j < 26) (h : nmOf base at_ turn tl i = nmOf base at_ turn tl j) : i = j := by
  unfold nmOf at h
  have hl : (base.set at_ (letOf turn i)).length = (base.set at_ (letOf turn j)).length := by rw [List.length_set, List.length_set]
  have h1 := (List.append_inj h hl).1
  have h2 : (base.set at_ (letOf turn i))[at_]? = (base.set at_ (letOf turn j))[at_]? := by rw [h1]
  rw [List.getElem?_set_self ha, List.getElem?_set_self ha] at h2
  exact letOf_inj hi hj (Option.some.inj h2)
/-- a row of good names -/
structure NamesOk (ns : List Str) : Prop where
  ok : ∀ x ∈ ns, NameOk x
  nd : ns.Nodup
theorem nodup_map_range {α : Type} {f : Nat → α} {n : Nat} (h : ∀ i j, i < n → j < n → f i = f j → i = j) : ((List.range n).map f).Nodup := by
  rw [List.nodup_iff_pairwise_ne, List.pairwise_map]
  refine List.Pairwise.imp_of_mem (R := fun a b => a ≠ b) (fun {a b} ha hb hne e => hne (h a b (List.mem_range.mp ha) (List.mem_range.mp hb) e)) (List.nodup_iff_pairwise_ne.mp List.nodup_range)
theorem names_ok {base : List Nat} {at_ : Nat} {turn : Int} {tl : Bool} {n : Nat} (h1 : 1 ≤ base.length) (h6 : base.length ≤ 6) (hb : ∀ c ∈ base, isLow c) (ha : at_ < base.length) (hn : n ≤ 26) :
    NamesOk ((List.range n).map fun k => sOf (nmOf base at_ turn tl k)) := by
  refine ⟨fun x hx => ?_, nodup_map_range fun i j hi hj e => nmOf_inj ha (by omega) (by omega) (sOf_inj e)⟩
  obtain ⟨k, _, rfl⟩ := List.mem_map.mp hx
  exact nmOf_ok h1 h6 hb
theorem abc_eq : ("abcdefghijklmnopqrstuvwxyz" : Str) = sOf ((List.range 26).map (97 + ·)) := by decide +kernel
theorem atI_some {α : Type} {xs : List α} {i : Int} {n : Nat} {x : α} (h : xs[n]? = some x) (e : i = (n : Int)) : atI xs i = some x := by rw [e]; exact atI_nat h
theorem abc_at {r : Int} (h0 : 0 ≤ r) (h1 : r < 26) : atI ("abcdefghijklmnopqrstuvwxyz" : Str).cps.toList r = some (97 + r.toNat) := by
  rw [abc_eq]
  refine atI_some (n := r.toNat) ?_ (by omega)
  show ((List.range 26).map (97 + ·)).toArray.toList[r.toNat]? = _
  rw [List.toList_toArray, List.getElem?_map, List.getElem?_range (by omega)]
  rfl
theorem abc_len : ("abcdefghijklmnopqrstuvwxyz" : Str).length ≤ sizeLine := by decide +kernel
theorem ixN_nat {n : Nat} {i : Int} {j : Nat} (e : i = (j : Int)) (h : j < n) : ixN n i = some j := by
  subst e
  unfold ixN
  rw [if_pos (by omega), if_pos (by omega)]
  simp
theorem joinL_signs : ∀ a : List Nat, TL.joinL [] (a.map fun c => [c]) = a
  | [] => rfl
  | [x] => rfl
  | x :: y :: r => by
    show [x] ++ ([] ++ TL.joinL [] ((y :: r).map fun c => [c])) = x :: y :: r
    rw [joinL_signs (y :: r)]
    rfl
theorem str_0 : ("" : Str) = sOf [] := by decide +kernel
theorem str_z : ("z" : Str) = sOf [122] := by decide +kernel
theorem str_zz : ("zz" : Str) = sOf [122, 122] := by decide +kernel
theorem join_signs (a : List Nat) : Txt.join "" (a.map fun c => (⟨#[c]⟩ : Str)) = sOf a := by
  have h : (a.map fun c => (⟨#[c]⟩ : Str)) = (a.map fun c => [c]).map SX.S := by rw [List.map_map]; rfl
  have h2 : ("" : Str) = SX.S [] := by decide +kernel
  rw [h, h2, SX.join_S, joinL_signs]
  rfl

/-! ### signs -/
structure Sg where
  name : Str
  ar : Nat
  wt : Nat
def Sg.av (s : Sg) : AV := .tup [.str s.name, .int s.ar, .int s.wt]
theorem acc_mapI {α : Type} {f : α → AV} : ∀ {C : Nat → α → Prop} {acc : List AV}, (∀ (i : Nat) y, acc[i]? = some y → ∃ c, C i c ∧ y = f c) → ∃ bs : List α, acc = bs.map f ∧ ∀ (i : Nat) c, bs[i]? = some c → C i c
  | _, [], _ => ⟨[], rfl, fun _ _ h => by simp at h⟩
  | C, y :: acc, h => by
    obtain ⟨c, hc, rfl⟩ := h 0 y rfl
    obtain ⟨bs, rfl, hb⟩ := acc_mapI (C := fun i => C (i + 1)) (acc := acc) (f := f) fun i z e => h (i + 1) z (by simpa using e)
    refine ⟨c :: bs, rfl, fun i d hd => ?_⟩
    cases i with
    | zero => simp at hd; subst hd; exact hc
    | succ i => exact hb i d (by simpa using hd)
/-- what signs are drawn: names apart, weights from one to nine, parts as told -/
structure SgOk (mx : Nat) (S : List Sg) : Prop where
  names : NamesOk (S.map Sg.name)
  wt : ∀ s ∈ S, 1 ≤ s.wt ∧ s.wt ≤ 9
  ar : ∀ s ∈ S, s.ar ≤ mx
  c0 : 2 ≤ (S.filter fun s => decide (s.ar = 0)).length
  c1 : 1 ≤ (S.filter fun s => decide (s.ar = 1)).length
  c2 : 1 ≤ (S.filter fun s => decide (s.ar = 2)).length
  len : S.length ≤ 6
theorem filter_ar (S : List Sg) (k : Nat) : (S.filter fun s => decide (s.ar = k)).length = ((S.map Sg.ar).filter fun n => decide (n = k)).length := by
  rw [List.filter_map, List.length_map]; rfl
theorem SgOk.of {mx : Nat} {S : List Sg} {l : List Nat} (hn : NamesOk (S.map Sg.name)) (hw : ∀ s ∈ S, 1 ≤ s.wt ∧ s.wt ≤ 9) (hp : (S.map Sg.ar).Perm l)
    (hl : (l.all fun n => decide (n ≤ mx)) = true) (h0 : 2 ≤ (l.filter fun n => decide (n = 0)).length) (h1 : 1 ≤ (l.filter fun n => decide (n = 1)).length) (h2 : 1 ≤ (l.filter fun n => decide (n = 2)).length) (h6 : l.length ≤ 6) : SgOk mx S := by
  refine ⟨hn, hw, fun s hs => ?_, ?_, ?_, ?_, ?_⟩
  · have : s.ar ∈ l := hp.mem_iff.mp (List.mem_map.mpr ⟨s, hs, rfl⟩)
    exact of_decide_eq_true (List.all_eq_true.mp hl _ this)
  · rw [filter_ar, (hp.filter _).length_eq]; exact h0
  · rw [filter_ar, (hp.filter _).length_eq]; exact h1
  · rw [filter_ar, (hp.filter _).length_eq]; exact h2
  · have := hp.length_eq
    rw [List.length_map] at this
    omega
theorem rot_perm {α : Type} (l : List α) (n : Nat) : (l.drop n ++ l.take n).Perm l := by
  have := List.perm_append_comm (l₁ := l.drop n) (l₂ := l.take n)
  rw [List.take_append_drop] at this
  exact this
def menuA : List (List Nat) := [[], [0], [1], [0, 2], [3], [4, 1]]
def menuB : List (List Nat) := [[], [1], [0]]
end Rw
/-! values as data: == of terms, rows of numbers -/
namespace Rw
open PySem L2
theorem PDL.map {α : Type} {G : Gp} {f : α → AV} {g : α → PyData} : ∀ {xs : List α}, (∀ x, x ∈ xs → PD G (f x) (g x)) → PDL G (xs.map f) (xs.map g)
  | [], _ => .nil
  | x :: xs, h => .cons (h x List.mem_cons_self) (PDL.map fun y hy => h y (List.mem_cons_of_mem _ hy))
theorem canAll_map {α : Type} {g : α → PyData} : ∀ {xs : List α}, (∀ x, x ∈ xs → (g x).canLay0 = true) → PyData.canLayAll0 (xs.map g) = true
  | [], _ => rfl
  | x :: xs, h => by
    show ((g x).canLay0 && PyData.canLayAll0 (xs.map g)) = true
    rw [h x List.mem_cons_self, canAll_map fun y hy => h y (List.mem_cons_of_mem _ hy)]
    rfl
theorem eqvAll_map {α : Type} {g : α → PyData} (hi : ∀ x y, PyData.eqv (g x) (g y) = true ↔ x = y) : ∀ xs ys : List α, PyData.eqvAll (xs.map g) (ys.map g) = true ↔ xs = ys
  | [], [] => by simp [PyData.eqvAll]
  | [], y :: ys => by simp [PyData.eqvAll]
  | x :: xs, [] => by simp [PyData.eqvAll]
  | x :: xs, y :: ys => by
    show (PyData.eqv (g x) (g y) && PyData.eqvAll (xs.map g) (ys.map g)) = true ↔ _
    rw [Bool.and_eq_true, hi, eqvAll_map hi xs ys, List.cons.injEq]
theorem eqv_int {i j : Int} : PyData.eqv (.int i) (.int j) = true ↔ i = j := by
  show (i == j) = true ↔ _
  exact beq_iff_eq
theorem eqv_str {i j : Str} : PyData.eqv (.str i) (.str j) = true ↔ i = j := by
  show (i == j) = true ↔ _
  exact beq_iff_eq
/-- a row of numbers -/
theorem pd_ints {G : Gp} {a : Addr} {ns : List Int} (h : G a = some (.lst (ns.map AV.int))) : PD G (.ref a) (.list (ns.map PyData.int)) := .lst h (PDL.map fun x _ => .int x)
theorem can_ints (ns : List Int) : (PyData.list (ns.map PyData.int)).canLay0 = true := canAll_map (g := PyData.int) fun _ _ => rfl
theorem depth_ints : ∀ ns : List Int, PyData.depthAll (ns.map PyData.int) ≤ 1
  | [] => by show PyData.depthAll [] ≤ 1; decide
  | n :: ns => by
    have := depth_ints ns
    show max (PyData.depth (.int n)) (PyData.depthAll (ns.map PyData.int)) ≤ 1
    have h : PyData.depth (.int n) ≤ 1 := by rw [PyData.depth]; omega
    omega
theorem eqv_ints {ms ns : List Int} : PyData.eqv (.list (ms.map PyData.int)) (.list (ns.map PyData.int)) = true ↔ ms = ns := eqvAll_map (fun _ _ => eqv_int) ms ns
theorem okD_ints (ms ns : List Int) : okD (.list (ms.map PyData.int)) (.list (ns.map PyData.int)) := by
  refine ⟨can_ints _, can_ints _, ?_⟩
  have := depth_ints ms
  have h : PyData.depth (.list (ms.map PyData.int)) ≤ 3 := by rw [PyData.depth]; omega
  omega
/-- == of rows of numbers -/
theorem fEq_ints {neg : Bool} {G : Gp} {a b : Addr} {ms ns : List Int} {Q : AK} (ha : G a = some (.lst (ms.map AV.int))) (hb : G b = some (.lst (ns.map AV.int)))
    (h : ∀ c : Bool, (c = true ↔ ms = ns) → Q (.bl (if neg = true then !c else c)) G) : fEqD neg (.ref a) (.ref b) G Q :=
  ⟨_, _, pd_ints ha, pd_ints hb, okD_ints _ _, h _ eqv_ints⟩
/-! terms -/
namespace Tm
/-- all names of a term are plain texts -/
def plain : Tm → Prop
  | t => (dat t).canLay0 = true
mutual
theorem pd (G : Gp) : ∀ t : Tm, PD G t.av t.dat
  | .bl n => .int n
  | .fn f ts => .tup (.cons (.str f) (pdL G ts))
theorem pdL (G : Gp) : ∀ ts : List Tm, PDL G (avL ts) (datL ts)
  | [] => .nil
  | t :: ts => .cons (pd G t) (pdL G ts)
end
mutual
theorem eqv_dat : ∀ s t : Tm, PyData.eqv s.dat t.dat = true ↔ s = t
  | .bl m, .bl n => by
    show PyData.eqv (.int m) (.int n) = true ↔ _
    rw [eqv_int, Tm.bl.injEq]
  | .bl m, .fn f ts => by
    constructor
    · intro h; exact absurd (show false = true from h) (by decide)
    · intro h; cases h
  | .fn f ts, .bl m => by
    constructor
    · intro h; exact absurd (show false = true from h) (by decide)
    · intro h; cases h
  | .fn f ts, .fn g us => by
    show (PyData.eqv (.str f) (.str g) && PyData.eqvAll (datL ts) (datL us)) = true ↔ _
    rw [Bool.and_eq_true, eqv_str, eqv_datL ts us, Tm.fn.injEq]
theorem eqv_datL : ∀ ss ts : List Tm, PyData.eqvAll (datL ss) (datL ts) = true ↔ ss = ts
  | [], [] => by constructor <;> intro _ <;> rfl
  | [], t :: ts => by
    constructor
    · intro h; exact absurd (show false = true from h) (by decide)
    · intro h; cases h
  | s :: ss, [] => by
    constructor
    · intro h; exact absurd (show false = true from h) (by decide)
    · intro h; cases h
  | s :: ss, t :: ts => by
    show (PyData.eqv s.dat t.dat && PyData.eqvAll (datL ss) (datL ts)) = true ↔ _
    rw [Bool.and_eq_true, eqv_dat s t, eqv_datL ss ts, List.cons.injEq]
end
mutual
theorem depth_dat : ∀ t : Tm, t.dat.depth ≤ t.depth + 1
  | .bl n => by rw [dat, PyData.depth]; omega
  | .fn f ts => by
    have := depth_datL ts
    rw [dat, depth, PyData.depth, PyData.depthAll, PyData.depth]
    omega
theorem depth_datL : ∀ ts : List Tm, PyData.depthAll (datL ts) ≤ depthL ts + 1
  | [] => by rw [datL, PyData.depthAll]; omega
  | t :: ts => by
    have h1 := depth_dat t
    have h2 := depth_datL ts
    rw [datL, depthL, PyData.depthAll]
    omega
end
end Tm
/-- a name is a plain text -/
theorem NameOk.str {x : Str} (h : NameOk x) : (PyData.str x).canLay0 = true := by
  obtain ⟨a, rfl, _, _, h⟩ := h
  show (a.toArray.all (· < 0x110000)) = true
  rw [← Array.all_toList, List.toList_toArray, List.all_eq_true]
  intro c hc
  have := (h c hc).2
  exact decide_eq_true (by omega)
/-! ### terms over signs -/
inductive TOk (S : List Sg) (B : Int → Prop) : Tm → Prop
  | bl {n : Int} : B n → TOk S B (.bl n)
  | fn {s : Sg} {ts : List Tm} : s ∈ S → ts.length = s.ar → (∀ t, t ∈ ts → TOk S B t) → TOk S B (.fn s.name ts)
theorem canLayL {ts : List Tm} (h : ∀ t, t ∈ ts → (Tm.dat t).canLay0 = true) : PyData.canLayAll0 (Tm.datL ts) = true := by
  rw [Tm.datL_map]
  exact canAll_map h
theorem TOk.plain {S : List Sg} {B : Int → Prop} {t : Tm} (hS : NamesOk (S.map Sg.name)) (h : TOk S B t) : (Tm.dat t).canLay0 = true := by
  induction h with
  | bl _ => rfl
  | fn hs hl _ ih =>
    show ((PyData.str _).canLay0 && PyData.canLayAll0 (Tm.datL _)) = true
    rw [(hS.ok _ (List.mem_map.mpr ⟨_, hs, rfl⟩)).str, canLayL ih]
    rfl
theorem TOk.mono {S : List Sg} {B B' : Int → Prop} {t : Tm} (hB : ∀ n, B n → B' n) (h : TOk S B t) : TOk S B' t := by
  induction h with
  | bl h => exact .bl (hB _ h)
  | fn hs hl _ ih => exact .fn hs hl ih
/-- the most that a term so deep has -/
def szB (mx : Nat) : Nat → Nat
  | 0 => 1
  | d + 1 => 1 + mx * szB mx d
theorem szB_pos (mx d : Nat) : 1 ≤ szB mx d := by cases d <;> rw [szB] <;> omega
theorem sizeL_le {ts : List Tm} {b : Nat} (h : ∀ t, t ∈ ts → t.size ≤ b) : Tm.sizeL ts ≤ ts.length * b := by
  induction ts with
  | nil => rw [Tm.sizeL]; omega
  | cons a r ih =>
    rw [Tm.sizeL, List.length_cons, Nat.add_mul]
    have h1 := h a List.mem_cons_self
    have h2 := ih fun t ht => h t (List.mem_cons_of_mem _ ht)
    omega
def menuF : List (List Int) := [[], [0], [0, 1], [999, 0, 7], [5, 998, 31, 2]]
theorem menuF_ok {fr : List Int} (h : fr ∈ menuF) : fr.length ≤ 4 ∧ (∀ n ∈ fr, 0 ≤ n ∧ n ≤ 999) ∧ fr.Nodup := by
  have : ∀ e ∈ menuF, e.length ≤ 4 ∧ (∀ n ∈ e, 0 ≤ n ∧ n ≤ 999) ∧ e.Nodup := by decide
  exact this fr h

/-! ### blanks of a term -/
namespace Tm
mutual
def flat : Tm → List Int
  | .bl n => [n]
  | .fn _ ts => flatL ts
def flatL : List Tm → List Int
  | [] => []
  | t :: ts => flat t ++ flatL ts
end
theorem flatL_append (a b : List Tm) : flatL (a ++ b) = flatL a ++ flatL b := by
  induction a with
  | nil => rfl
  | cons t ts ih => rw [List.cons_append, flatL, flatL, ih, List.append_assoc]
mutual
theorem flat_len : ∀ t : Tm, t.flat.length ≤ t.size
  | .bl n => by rw [flat, size, List.length_singleton]; omega
  | .fn f ts => by have := flatL_len ts; rw [flat, size]; omega
theorem flatL_len : ∀ ts : List Tm, (flatL ts).length ≤ sizeL ts
  | [] => by rw [flatL, sizeL]; exact Nat.le_refl _
  | t :: ts => by
    have h1 := flat_len t
    have h2 := flatL_len ts
    rw [flatL, sizeL, List.length_append]
    omega
end
theorem sizeL_append (a b : List Tm) : sizeL (a ++ b) = sizeL a + sizeL b := by
  induction a with
  | nil => rw [List.nil_append, sizeL]; omega
  | cons t ts ih => rw [List.cons_append, sizeL, sizeL, ih]; omega
theorem sizeL_reverse (a : List Tm) : sizeL a.reverse = sizeL a := by
  induction a with
  | nil => rfl
  | cons t ts ih => rw [List.reverse_cons, sizeL_append, ih, sizeL, sizeL, sizeL]; omega
/-- signs of one part round a term -/
def upN (f : Str) : Nat → Tm → Tm
  | 0, t => t
  | n + 1, t => .fn f [upN f n t]
theorem upN_succ (f : Str) (n : Nat) (t : Tm) : upN f n (.fn f [t]) = upN f (n + 1) t := by
  induction n with
  | zero => rfl
  | succ n ih => show Tm.fn f [upN f n (.fn f [t])] = .fn f [upN f (n + 1) t]; rw [ih]
theorem upN_size (f : Str) (n : Nat) (t : Tm) : (upN f n t).size = n + t.size := by
  induction n with
  | zero => rw [upN]; omega
  | succ n ih => rw [upN, size, sizeL, sizeL, ih]; omega
theorem upN_depth (f : Str) (n : Nat) (t : Tm) : (upN f n t).depth = n + t.depth := by
  induction n with
  | zero => rw [upN]; omega
  | succ n ih => rw [upN, depth, depthL, depthL, ih]; omega
theorem upN_plain {f : Str} (hf : (PyData.str f).canLay0 = true) (n : Nat) {t : Tm} (h : t.dat.canLay0 = true) : (upN f n t).dat.canLay0 = true := by
  induction n with
  | zero => exact h
  | succ n ih =>
    show ((PyData.str f).canLay0 && ((upN f n t).dat.canLay0 && true)) = true
    rw [hf, ih]; rfl
end Tm
/-- each once -/
def dd (acc : List Int) (l : List Int) : List Int := l.foldl (fun acc n => if n ∈ acc then acc else acc ++ [n]) acc
theorem szl' {n m : Nat} (h : n ≤ m) (hm : m ≤ 1000 := by decide) : n ≤ 1000 := Nat.le_trans h hm
theorem dd_append (acc a b : List Int) : dd acc (a ++ b) = dd (dd acc a) b := by unfold dd; rw [List.foldl_append]
theorem dd_cons (acc : List Int) (n : Int) (l : List Int) : dd acc (n :: l) = dd (if n ∈ acc then acc else acc ++ [n]) l := rfl
theorem dd_len (acc l : List Int) : (dd acc l).length ≤ acc.length + l.length := by
  induction l generalizing acc with
  | nil => exact Nat.le_refl _
  | cons n l ih =>
    rw [dd_cons]
    have := ih (if n ∈ acc then acc else acc ++ [n])
    have h : (if n ∈ acc then acc else acc ++ [n]).length ≤ acc.length + 1 := by
      split
      · omega
      · rw [List.length_append, List.length_singleton]; omega
    rw [List.length_cons]
    omega
def Tm.blanks (t : Tm) : List Int := dd [] t.flat
theorem mem_dd {acc l : List Int} {n : Int} : n ∈ dd acc l ↔ n ∈ acc ∨ n ∈ l := by
  induction l generalizing acc with
  | nil => simp [dd]
  | cons m l ih =>
    rw [dd_cons, ih]
    split
    · rename_i h
      constructor
      · rintro (h1 | h1)
        · exact .inl h1
        · exact .inr (List.mem_cons_of_mem _ h1)
      · rintro (h1 | h1)
        · exact .inl h1
        · rcases List.mem_cons.mp h1 with rfl | h1
          · exact .inl h
          · exact .inr h1
    · rw [List.mem_append, List.mem_singleton, List.mem_cons, or_assoc]
theorem Tm.mem_blanks {t : Tm} {n : Int} : n ∈ t.blanks ↔ n ∈ t.flat := by unfold Tm.blanks; rw [mem_dd]; simp
theorem inA_int (n : Int) (ns : List Int) : inA (.int n) (ns.map AV.int) = decide (n ∈ ns) := by
  unfold inA inV
  rw [List.map_map]
  induction ns with
  | nil => rfl
  | cons m ns ih =>
    rw [List.map_cons, List.any_cons, ih]
    show ((m == n) || decide (n ∈ ns)) = decide (n ∈ m :: ns)
    by_cases h : m = n
    · subst h; simp
    · have h2 : (m == n) = false := beq_eq_false_iff_ne.mpr h
      rw [h2, Bool.false_or]
      by_cases h3 : n ∈ ns
      · rw [decide_eq_true h3, decide_eq_true (List.mem_cons_of_mem _ h3)]
      · rw [decide_eq_false h3, decide_eq_false (by rw [List.mem_cons]; rintro (e | e); exact h e.symm; exact h3 e)]
theorem flat_ints (ns : List Int) : (ns.map AV.int).all flatA = true := by
  induction ns with
  | nil => rfl
  | cons n ns ih => rw [List.map_cons, List.all_cons, ih]; rfl
/-- a fresh thing handed back, the rest forgotten -/
theorem dqn {Q : AK} {G G' : Gp} {p : Addr} {o : GO} (h : ∀ p G', New G p o G' → Q (.ref p) G') (hs : GSub G G') (hn : G p = none) (hp : G' p = some o) : dropQ Q (.ref p) G' :=
  ⟨gset G p o, fun a u e => by
    by_cases ha : a = p
    · subst ha; rw [gset_same] at e; rw [hp]; exact e
    · rw [gset_ne ha] at e; exact hs a u e, h p _ ⟨rfl, hn⟩⟩
end Rw
/-! the end: a law's promise becomes the statement -/
namespace Rw
open PySem L2
theorem ro_of {K : PySem.W.Frag} {H : Hp} {a : Addr} {ns : List Int} (ho : Only H) (h : SqL K H a (ns.map V.int)) : RoL K H a ns := by
  rcases h with (h | ⟨o, h⟩) | h
  · rcases ho a with e | ⟨o, xs, e⟩ <;> rw [e] at h <;> cases h
  · exact .inl ⟨o, h⟩
  · exact .inr h
theorem walk0 {l : PySem.W.OpenLaw} {k : Nat} {q : Program} {loose : List Str} {XP : (Str → Option Value) → Heap → Prop} {YP : World → Heap → Prop} {d : DefRec} {K : Params → PySem.W.Frag} {asp : ASp} {x : Str}
    (hn : l.most = some 63) (hdf : d.params.defaults = []) (hr : Room k PySem.callerA) (hY : ∀ (w : World) (h : Heap), YP w h → (K w.params).In h)
    (hp : ∀ (ns : List Int) (G : Gp) (Q : AK) (E : AX), ns.length ≤ 63 → (∀ G', Q (.bl true) G') → asp [.ro ns] G Q E)
    (F : ∀ (w : World) (mg : Str → Option Value) (fa : Addr) (h : Heap), (K w.params).In h → h.Ns mainGlobals mg → mg d.name = some (.ref fa) →
      ∃ fd : FuncData, (∀ (s : Shared) (u : Value), BindsTo s fd ⟨[u], []⟩ [(x, u)]) ∧ ∀ base : Heap, (K w.params).In base → base.Ns mainGlobals mg → FnOk l.prog w (K w.params) mg base (CX l.prog w) k fa fd [x] (lowF (K w.params) asp)) :
    PySem.W.WalkO q loose XP YP l.row.toRowW d [] (fun f vs => PySem.call f vs) :=
  L2.walk_of (n := 63) (k := k) (x := x) (CX := fun w => CX l.prog w) (sp := fun w => lowF (K w.params) asp) hn (by decide) hdf hr hY F
    (fun w H a ns hl ho hS => ⟨[.ro ns], fun _ => none, fun x _ => x = .bl true, fun _ _ => False, .cons (.ro (ro_of ho hS)) .nil, (fun _ _ e => absurd e (by intro z; cases z)), hp ns _ _ _ hl fun _ => rfl,
      (fun x G' v H' hx _ _ r => by
        have hx : x = .bl true := hx
        subst hx
        cases r
        rfl), fun _ _ _ z => z.elim⟩)
    fun w H s e s' z => by obtain ⟨_, _, _, _, _, _, _, _, _, _, _, _, z⟩ := z; exact z
theorem law_fd {P : Program} {w : World} {K : PySem.W.Frag} {mg : Str → Option Value} {base : Heap} {k : Nat} {asp : ASp} {fa : Addr} {fd : FuncData} {ps : List Str} {oc : Value} {od : Option Addr} {osl : Array (Option Value)} {x : Str}
    (D : DefOk P w K mg base k x asp) (hm : mg x = some (.ref fa)) (lk : K.lookup fa = some ⟨oc, od, .func fd, osl⟩) (hps : fd.params.args.map (·.arg) = ps) : FnOk P w K mg base (CX P w) k fa fd ps (lowF K asp) := by
  obtain ⟨f, fd', ps', F, hm', hk, hb, oc', od', osl', lk', he⟩ := D.ex
  rw [hm] at hm'; cases hm'
  rw [lk] at lk'; cases lk'
  rw [← hps, he]
  exact F
/-- a comprehension within a comprehension -/
def relabelS (scope sc : Scope) : Scope :=
  { scope with names := scope.names.map fun (n, k) => if (k == .free && sc.kind == .function && sc.names.lookup n == some .cell) then (n, .cell) else (n, k) }
theorem blkOk_n {N : List Str} {sc0 sc1 scope : Scope} {own : List (Str × Nat)} {env : Env} (h : blkC N (relabelS sc1 sc0) scope own = true) (e : env.scope = sc0 := by rfl) : BlkOk N (relabel sc1 env) scope own := by
  have : relabel sc1 env = relabelS sc1 sc0 := by subst e; rfl
  rw [this]
  exact blkOk_by h
end Rw
/-! fillings -/
namespace Rw
open PySem L2
abbrev Fill := List (Int × Tm)
namespace Fill
def val (fl : Fill) (n : Int) : Option Tm := (fl.find? fun p => decide (p.1 = n)).map (·.2)
def put (fl : Fill) (n : Int) (t : Tm) : Fill := if (fl.any fun p => decide (p.1 = n)) = true then fl.map (fun p => if p.1 = n then (p.1, t) else p) else fl ++ [(n, t)]
def dk (fl : Fill) : List (Key × AV) := fl.map fun p => (.inl p.1, p.2.av)
def kd (fl : Fill) : List (Key × PyData) := fl.map fun p => (.inl p.1, p.2.dat)
theorem key_eq {m n : Int} : decide ((Sum.inl m : Key) = Sum.inl n) = decide (m = n) := by
  by_cases h : m = n
  · subst h; simp
  · rw [decide_eq_false h, decide_eq_false (fun z => h (Sum.inl.inj z))]
theorem val_cons {p : Int × Tm} {fl : Fill} {n : Int} : val (p :: fl) n = if p.1 = n then some p.2 else val fl n := by
  unfold val
  by_cases h : p.1 = n
  · simp [List.find?_cons, h]
  · simp [List.find?_cons, h]
theorem valA_dk (fl : Fill) (n : Int) : valA fl.dk (.inl n) = (fl.val n).map Tm.av := by
  induction fl with
  | nil => rfl
  | cons p fl ih =>
    rw [val_cons]
    unfold valA dk at ih ⊢
    rw [List.map_cons, List.find?_cons, key_eq]
    by_cases h : p.1 = n
    · rw [decide_eq_true h, if_pos h]; rfl
    · rw [decide_eq_false h, if_neg h]; exact ih
theorem valD_kd (fl : Fill) (n : Int) : valD fl.kd (.inl n) = (fl.val n).map Tm.dat := by
  induction fl with
  | nil => rfl
  | cons p fl ih =>
    rw [val_cons]
    unfold valD kd at ih ⊢
    rw [List.map_cons, List.find?_cons, key_eq]
    by_cases h : p.1 = n
    · rw [decide_eq_true h, if_pos h]; rfl
    · rw [decide_eq_false h, if_neg h]; exact ih
theorem any_dk (fl : Fill) (n : Int) : (fl.dk.any fun kv => decide (kv.1 = (.inl n : Key))) = fl.any fun p => decide (p.1 = n) := by
  unfold dk
  rw [List.any_map]
  congr 1
  funext p
  exact key_eq
theorem putA_dk (fl : Fill) (n : Int) (t : Tm) : putA fl.dk (.inl n) t.av = (fl.put n t).dk := by
  unfold putA put
  rw [any_dk]
  split
  · unfold dk
    rw [List.map_map, List.map_map]
    congr 1
    funext p
    show (if (Sum.inl p.1 : Key) = Sum.inl n then ((Sum.inl p.1 : Key), t.av) else (Sum.inl p.1, p.2.av)) = ((Sum.inl (if p.1 = n then (p.1, t) else p).1 : Key), (if p.1 = n then (p.1, t) else p).2.av)
    by_cases h : p.1 = n
    · rw [if_pos (by rw [h]), if_pos h]
    · rw [if_neg (fun z => h (Sum.inl.inj z)), if_neg h]
  · unfold dk; rw [List.map_append]; rfl
theorem dk_length (fl : Fill) : fl.dk.length = fl.length := List.length_map ..
theorem put_length (fl : Fill) (n : Int) (t : Tm) : (fl.put n t).length ≤ fl.length + 1 := by
  unfold put
  split
  · rw [List.length_map]; omega
  · rw [List.length_append, List.length_singleton]; exact Nat.le_refl _
theorem put_all {P : Int × Tm → Prop} {fl : Fill} {n : Int} {t : Tm} (h : ∀ p ∈ fl, P p) (ht : P (n, t)) : ∀ p ∈ fl.put n t, P p := by
  unfold put
  split
  · intro p hp
    obtain ⟨q, hq, rfl⟩ := List.mem_map.mp hp
    by_cases e : q.1 = n
    · simp only [e, if_true]; exact ht
    · simp only [e, if_false]; exact h q hq
  · intro p hp
    rcases List.mem_append.mp hp with hp | hp
    · exact h p hp
    · rw [List.mem_singleton.mp hp]; exact ht
theorem val_mem {fl : Fill} {n : Int} {t : Tm} (h : fl.val n = some t) : (n, t) ∈ fl := by
  induction fl with
  | nil => cases h
  | cons p fl ih =>
    rw [val_cons] at h
    split at h
    · rename_i e; cases h; rw [← e]; exact List.mem_cons_self
    · exact List.mem_cons_of_mem _ (ih h)
theorem any_iff {fl : Fill} {n : Int} : (fl.any fun p => decide (p.1 = n)) = true ↔ n ∈ fl.map (·.1) := by
  rw [List.any_eq_true]
  constructor
  · rintro ⟨p, hp, e⟩; rw [← of_decide_eq_true e]; exact List.mem_map.mpr ⟨p, hp, rfl⟩
  · intro h; obtain ⟨p, hp, e⟩ := List.mem_map.mp h; exact ⟨p, hp, decide_eq_true e⟩
theorem put_keys {fl : Fill} {n : Int} {t : Tm} (h : (fl.map (·.1)).Nodup) : ((fl.put n t).map (·.1)).Nodup := by
  unfold put
  split
  · rw [List.map_map]
    have e : ((fun x => x.fst) ∘ fun p : Int × Tm => if p.1 = n then (p.1, t) else p) = fun p : Int × Tm => p.1 := by
      funext p
      show (if p.1 = n then (p.1, t) else p).1 = p.1
      split <;> rfl
    rw [e]; exact h
  · rename_i hn
    have hn : n ∉ fl.map (·.1) := fun z => hn (any_iff.mpr z)
    rw [List.map_append, List.nodup_append]
    refine ⟨h, by simp, fun a ha b hb => ?_⟩
    have hb : b = n := by simpa using hb
    subst hb
    intro z; subst z; exact hn ha
theorem val_of {fl : Fill} (h : (fl.map (·.1)).Nodup) {p : Int × Tm} (hp : p ∈ fl) : fl.val p.1 = some p.2 := by
  induction fl with
  | nil => cases hp
  | cons q fl ih =>
    rw [List.map_cons, List.nodup_cons] at h
    rw [val_cons]
    rcases List.mem_cons.mp hp with rfl | hp
    · rw [if_pos rfl]
    · rw [if_neg (fun e => h.1 (by rw [e]; exact List.mem_map.mpr ⟨p, hp, rfl⟩))]
      exact ih h.2 hp
/-- a filling is like itself -/
theorem eq_self {fl : Fill} (h : (fl.map (·.1)).Nodup) : eqKD fl.kd fl.kd = true := by
  unfold eqKD hitD
  rw [Bool.and_eq_true]
  refine ⟨beq_self_eq_true _, List.all_eq_true.mpr fun p hp => ?_⟩
  obtain ⟨q, hq, rfl⟩ := List.mem_map.mp hp
  show (match valD fl.kd (.inl q.1) with | some d => PyData.eqv q.2.dat d | none => false) = true
  rw [valD_kd, val_of h hq]
  exact (Tm.eqv_dat _ _).mpr rfl
theorem pdk {G : Gp} (fl : Fill) : PDK G fl.dk fl.kd := by
  induction fl with
  | nil => exact .nil
  | cons p fl ih => exact .cons ⟨rfl, Tm.pd G p.2⟩ ih
end Fill
namespace Tm
mutual
def fill (fl : Fill) : Tm → Tm
  | .bl n => (fl.val n).getD (.bl n)
  | .fn f ts => .fn f (fillL fl ts)
def fillL (fl : Fill) : List Tm → List Tm
  | [] => []
  | t :: ts => fill fl t :: fillL fl ts
end
theorem fillL_map (fl : Fill) : ∀ ts : List Tm, fillL fl ts = ts.map (fill fl)
  | [] => rfl
  | t :: ts => by rw [fillL, fillL_map fl ts]; rfl
theorem fill_bl (fl : Fill) (n : Int) : (fill fl (.bl n)).av = (valA fl.dk (.inl n)).getD (.int n) := by
  rw [fill, Fill.valA_dk]
  cases fl.val n <;> rfl
mutual
theorem fill_size {fl : Fill} {m : Nat} (hm : 1 ≤ m) (h : ∀ p ∈ fl, p.2.size ≤ m) : ∀ t : Tm, (fill fl t).size ≤ t.size * m
  | .bl n => by
    rw [fill, size, Nat.one_mul]
    cases e : fl.val n with
    | none => show size (.bl n) ≤ m; rw [size]; exact hm
    | some u => exact h _ (Fill.val_mem e)
  | .fn f ts => by
    have := fill_sizeL hm h ts
    rw [fill, size, size, Nat.add_mul, Nat.one_mul]
    omega
theorem fill_sizeL {fl : Fill} {m : Nat} (hm : 1 ≤ m) (h : ∀ p ∈ fl, p.2.size ≤ m) : ∀ ts : List Tm, sizeL (fillL fl ts) ≤ sizeL ts * m
  | [] => by rw [fillL, sizeL]; exact Nat.zero_le _
  | t :: ts => by
    have h1 := fill_size hm h t
    have h2 := fill_sizeL hm h ts
    rw [fillL, sizeL, sizeL, Nat.add_mul]
    omega
end
mutual
theorem fill_depth {fl : Fill} {m : Nat} (h : ∀ p ∈ fl, p.2.depth ≤ m) : ∀ t : Tm, (fill fl t).depth ≤ t.depth + m
  | .bl n => by
    rw [fill, depth, Nat.zero_add]
    cases e : fl.val n with
    | none => show depth (.bl n) ≤ m; rw [depth]; exact Nat.zero_le _
    | some u => exact h _ (Fill.val_mem e)
  | .fn f ts => by
    have := fill_depthL h ts
    rw [fill, depth, depth]
    omega
theorem fill_depthL {fl : Fill} {m : Nat} (h : ∀ p ∈ fl, p.2.depth ≤ m) : ∀ ts : List Tm, depthL (fillL fl ts) ≤ depthL ts + m
  | [] => by rw [fillL, depthL]; exact Nat.zero_le _
  | t :: ts => by
    have h1 := fill_depth h t
    have h2 := fill_depthL h ts
    rw [fillL, depthL, depthL]
    omega
end
end Tm
/-- fillings whose values are told terms -/
def FOk (S : List Sg) (B : Int → Prop) (dp sz : Nat) (fl : Fill) : Prop := (fl.map (·.1)).Nodup ∧ ∀ p ∈ fl, TOk S B p.2 ∧ p.2.depth ≤ dp ∧ p.2.size ≤ sz
theorem FOk.put {S : List Sg} {B : Int → Prop} {dp sz : Nat} {fl : Fill} {n : Int} {t : Tm} (h : FOk S B dp sz fl) (h1 : TOk S B t) (h2 : t.depth ≤ dp) (h3 : t.size ≤ sz) : FOk S B dp sz (fl.put n t) :=
  ⟨Fill.put_keys h.1, Fill.put_all h.2 ⟨h1, h2, h3⟩⟩
theorem FOk.ok {S : List Sg} {B : Int → Prop} {dp sz : Nat} {fl : Fill} (hS : NamesOk (S.map Sg.name)) (hd : dp ≤ 190) (h : FOk S B dp sz fl) : okKD fl.kd := by
  intro p hp
  obtain ⟨q, hq, rfl⟩ := List.mem_map.mp hp
  have hh := h.2 q hq
  refine ⟨hh.1.plain hS, ?_⟩
  have := Tm.depth_dat q.2
  show q.2.dat.depth ≤ 200
  omega
end Rw
/-! own exceptions; instances of own classes -/
namespace Rw
open PySem L2
/-! ### raise -/
abbrev excBs : List Value := [.type "ValueError", .type "Exception", .type "BaseException", .type "object"]
structure XcAt (K : PySem.W.Frag) (mg : Str → Option Value) (x : Str) : Prop where
  ex : ∃ C : Addr, mg x = some (.ref C) ∧ PySem.W.excIn K C excBs "ValueError.__new__" = true ∧ PySem.W.keepIn K (.ref C) = true ∧ PySem.W.subIn K (.ref C) (.type "BaseException") = some true ∧ PySem.W.typeIn K (.ref C) = some (.type "type") ∧ PySem.W.isClsIn K C = true
/-- an exception of class x is (or isn't) caught by 'except y' -/
structure CtAt (K : PySem.W.Frag) (mg : Str → Option Value) (x y : Str) (b : Bool) : Prop where
  ex : ∀ C D : Value, mg x = some C → mg y = some D → PySem.W.exmOne K C D = some b
theorem ctAt_mk {K : PySem.W.Frag} {mg : Str → Option Value} {x y : Str} {b : Bool} {S T : Addr} (hx : mg x = some (.ref S)) (hy : mg y = some (.ref T)) (h1 : PySem.W.subIn K (.ref T) (.type "BaseException") = some true) (h2 : PySem.W.isClsIn K T = true) (h3 : PySem.W.typeIn K (.ref T) = some (.type "type")) (h4 : PySem.W.subIn K (.ref S) (.ref T) = some b) : CtAt K mg x y b := by
  refine ⟨fun C D e1 e2 => ?_⟩
  rw [hx] at e1; cases e1
  rw [hy] at e2; cases e2
  have e1 : (PySem.W.subIn K (.ref T) (.type "BaseException") == some true) = true := by rw [h1] <;> rfl
  have e2 : ((PySem.W.clsIn K T).isSome && PySem.W.typeIn K (.ref T) == some (.type "type")) = true := by
    have h2' : (PySem.W.clsIn K T).isSome = true := h2
    rw [h2', h3] <;> rfl
  show (if (PySem.W.subIn K (.ref T) (.type "BaseException") == some true) = true then (if ((PySem.W.clsIn K T).isSome && PySem.W.typeIn K (.ref T) == some (.type "type")) = true then PySem.W.subIn K (.ref S) (.ref T) else none) else none) = some b
  rw [if_pos e1, if_pos e2]
  exact h4
def aRaise (mg : Str → Option Value) (x : Str) : ATS := fun D ρ G => ∀ c, mg x = some c → D.ex c ρ G
section
variable {X : Cx} {W : WW}
theorem as_raise {x m : Str} {j : Nat} {p p2 pos pos' : Pos} (hc : X.calm = true) (tk : Tk X W) (e : XcAt X.K X.mg x) (hg : Gl X x := by rfl) (hdb : (x == ("__debug__" : Str)) = false := by decide) :
    AS X W (.Raise (some (.Call (.Name x p) [.Constant (.str m) j p2] [] pos)) none pos') (aRaise X.mg x) := by
  obtain ⟨C, gC, q, kC, bP, tP, _⟩ := e.ex
  exact psI (ps_raise hc tk (pmk_own PySem.F.excBase_ValueError q gC kC (raises_own bP tP) hg hdb)) fun D σ H ⟨ρ, G, D0, hs, hg, h, hd⟩ => ⟨rfl, hd.ex _ ρ G σ H (h _ gC) .refl hg hs⟩
/-! ### try .. except X -/
def noX (D : AEnds) : AEnds := { D with ex := fun _ _ _ => False }
def aTry (K : PySem.W.Frag) (mg : Str → Option Value) (y : Str) (t ts : ATS) : ATS := fun D ρ G => t { D with ex := fun c ρ' G' => ∀ D', mg y = some D' → ∃ b, PySem.W.exmOne K c D' = some b ∧ (b = true → ts (noX D) ρ' G') ∧ (b = false → D.ex c ρ' G') } ρ G
theorem as_try {x : Str} {body suite : List Stmt} {b₀ : Stmt} {np pos pos' : Pos} {t ts : ATS} (tk : Tk X W) (e : XcAt X.K X.mg x) (hs : X.stack = X.env :: X.outer) (hf : X.env.frame = some X.env.locals)
    (hb : ∀ (W' : WW) (pn : List (Addr × Obj)) (xe : Value → Shared → Prop), Tk (X.tr pn xe) W' → PassesOwn (model X.prog X.w) X.A X.env xe → ASs (X.tr pn xe) W' body t)
    (hsu : ∀ (a : Addr) (pn : List (Addr × Obj)), ASs (X.suite a pn) W0 (b₀ :: suite) ts) (hg : Gl X x := by rfl) (hdb : (x == ("__debug__" : Str)) = false := by decide) :
    AS X W (.Try body [.ExceptHandler (some (.Name x np)) none (b₀ :: suite) pos'] [] [] pos) (aTry X.K X.mg x t ts) := by
  obtain ⟨C, gC, _⟩ := e.ex
  refine psI (ps_try_only (c := .ref C) (tb := fun W' => lowS X.K (fun c σ H => W' c none σ H) t) (ts := fun _ _ _ => lowS X.K W0 ts) hs hf ⟨hg, hdb, .inl gC⟩ tk (fun W' pn xe tk' po => hb (fun c σ H => W' c none σ H) pn xe (tk'.imp fun c d σ H ⟨z, h⟩ => by subst z; exact h) po) fun a oe cls d pn _ _ => hsu a _) ?_
  rintro D σ H ⟨ρ, G, D0, hs, hg, h, hd⟩
  refine ⟨ρ, G, _, hs, hg, h, ⟨hd.nx, hd.rt, hd.bk, hd.ct, ?_⟩⟩
  intro c ρ' G' σ' H' he e g s
  obtain ⟨b, hb1, h1, h2⟩ := he _ gC
  refine ⟨b, hb1, fun ht a ha => ⟨ρ', G', noX D0, s, g, h1 ht, ?_⟩, fun hf => ⟨rfl, hd.ex c ρ' G' σ' H' (h2 hf) e g s⟩⟩
  have l := hd.up e
  exact ⟨l.nx, l.rt, l.bk, l.ct, fun _ _ _ _ _ z => z.elim⟩
end
/-! ### instances -/
def putFA (f : Str) (v : AV) : List (Str × AV) → List (Str × AV)
  | [] => [(f, v)]
  | (g, x) :: r => if g = f then (g, v) :: r else (g, x) :: putFA f v r
section
variable {K : PySem.W.Frag} {H : Hp}
theorem RFs.cons_inv {fs : List (Str × AV)} {ws : List (Str × V)} {p : Str × AV} (r : RKV K H (p :: fs) ws) : ∃ q rs, ws = q :: rs ∧ p.1 = q.1 ∧ Rep K H p.2 q.2 ∧ RKV K H fs rs := by
  cases r with
  | cons h t => exact ⟨_, _, rfl, h.1, h.2, t⟩
theorem RFs.look : ∀ {fs : List (Str × AV)} {ws : List (Str × V)} {f : Str} {x : AV}, RKV K H fs ws → fs.lookup f = some x → ∃ v, ws.lookup f = some v ∧ Rep K H x v
  | [], _, _, _, _, e => by cases e
  | (g, y) :: fs, _, f, x, r, e => by
    obtain ⟨⟨g', v⟩, rs, rfl, e1, r1, t⟩ := RFs.cons_inv r
    have e1 : g = g' := e1
    subst e1
    by_cases h : f = g
    · subst h
      rw [List.lookup_cons_self] at e ⊢
      cases e
      exact ⟨v, rfl, r1⟩
    · have hb : (f == g) = false := beq_eq_false_iff_ne.mpr h
      rw [List.lookup_cons, hb] at e ⊢
      exact RFs.look t e
theorem RFs.none : ∀ {fs : List (Str × AV)} {ws : List (Str × V)} {f : Str}, RKV K H fs ws → fs.lookup f = none → ws.lookup f = none
  | [], _, _, r, _ => by cases r; rfl
  | (g, y) :: fs, _, f, r, e => by
    obtain ⟨⟨g', v⟩, rs, rfl, e1, r1, t⟩ := RFs.cons_inv r
    have e1 : g = g' := e1
    subst e1
    by_cases h : f = g
    · subst h
      rw [List.lookup_cons_self] at e; cases e
    · have hb : (f == g) = false := beq_eq_false_iff_ne.mpr h
      rw [List.lookup_cons, hb] at e ⊢
      exact RFs.none t e
theorem RFs.put : ∀ {fs : List (Str × AV)} {ws : List (Str × V)} {f : Str} {x : AV} {v : V}, RKV K H fs ws → Rep K H x v → RKV K H (putFA f x fs) (putF f v ws)
  | [], _, _, _, _, r, rx => by cases r; exact .cons ⟨rfl, rx⟩ .nil
  | (g, y) :: fs, _, f, x, v, r, rx => by
    obtain ⟨⟨g', u⟩, rs, rfl, e1, r1, t⟩ := RFs.cons_inv r
    have e1 : g = g' := e1
    subst e1
    unfold putFA putF
    by_cases h : g = f
    · rw [if_pos h, if_pos h]; exact .cons ⟨rfl, rx⟩ t
    · rw [if_neg h, if_neg h]; exact .cons ⟨rfl, r1⟩ (RFs.put t rx)
end
theorem putFA_le {f : Str} {v : AV} {fs : List (Str × AV)} {k : Nat} (h : fs.length ≤ k) : (putFA f v fs).length ≤ k + 1 := by
  induction fs generalizing k with
  | nil => show 1 ≤ k + 1; omega
  | cons p fs ih =>
    obtain ⟨g, x⟩ := p
    unfold putFA
    rw [List.length_cons] at h
    split
    · rw [List.length_cons]; omega
    · rw [List.length_cons]
      have := ih (k := k - 1) (by omega)
      omega
/-- an attribute that instances of C have, and no class of it -/
structure ClsA (K : PySem.W.Frag) (C : Addr) (f : Str) : Prop where
  c : Cls K C
  n : NoAttr K C f
def fFld (K : PySem.W.Frag) (f : Str) (x : AV) (G : Gp) (Q : AK) : Prop := onRef x fun a => ∃ C fs y, G a = some (.ins C fs) ∧ ClsA K C f ∧ fs.lookup f = some y ∧ Q y G
def aFld (K : PySem.W.Frag) (f : Str) (t : AT) : AT := fun ρ G Q E => t ρ G (fun x G1 => fFld K f x G1 Q) E
def fPut (K : PySem.W.Frag) (f : Str) (x y : AV) (G : Gp) (P : Gp → Prop) : Prop := onRef x fun a => ∃ C fs, G a = some (.ins C fs) ∧ ClsA K C f ∧ fs.length < 1000 ∧ P (gset G a (.ins C (putFA f y fs)))
def aPut (K : PySem.W.Frag) (f : Str) (ta tv : AT) : ATS := fun D ρ G => tv ρ G (fun y G1 => ta ρ G1 (fun x G2 => fPut K f x y G2 fun G3 => D.nx ρ G3) (atX D.ex ρ)) (atX D.ex ρ)
section
variable {X : Cx} {W : WW} {o e value : Expr} {es : List Expr} {f m x : Str} {pos pos' p apos cpos : Pos} {ta tv te to : AT} {t : ATA} {k : Nat} {C : Addr} {asp : ASp}
theorem ae_fld (he : AE X W e te) (hb : attributeBase e f X.env (eval e X.env) = eval e X.env := by rfl) : AE X W (.Attribute e f pos) (aFld X.K f te) :=
  peI (pe_fld he hb) fun σ H Q ⟨ρ, G, Q0, E0, hs, hg, h, hq, hE⟩ => by
    refine ⟨ρ, G, _, E0, hs, hg, h, ?_, hE⟩
    intro x G1 v H1 h1 e1 g1 r1
    cases r1 with
    | ref a =>
      obtain ⟨C, fs, y, e, c, l, h1⟩ := h1
      obtain ⟨dx, ws, hw, rf⟩ := g1 _ _ e
      obtain ⟨u, hu, ru⟩ := RFs.look rf l
      exact ⟨a, C, dx, ws, u, rfl, hw, c.c, c.n, hu, hq _ _ _ _ h1 e1 g1 ru⟩
    | _ => exact False.elim h1
theorem as_fld (ha : AE X W o ta) (hv : AE X W value tv) (hs : swapsWith value (some (.Attribute o f pos')) pos.line X.env = pure false := by rfl) : AS X W (.Assign [.Attribute o f pos'] value pos) (aPut X.K f ta tv) :=
  psI (ps_fld ha hv hs) fun D σ H ⟨ρ, G, D0, hs, hg, h, hd⟩ => by
    refine ⟨ρ, G, _, _, hs, hg, h, ?_, hd.ex.at hs⟩
    intro y G1 v H1 h1 e1 g1 r1
    refine ⟨ρ, G1, _, _, hs.up e1.toKept, g1, h1, ?_, (hd.ex.at hs).up e1⟩
    intro x G2 u H2 h2 e2 g2 r2
    cases r2 with
    | ref a =>
      obtain ⟨C, fs, e, c, hl, h2⟩ := h2
      obtain ⟨dx, ws, hw, rf⟩ := g2 _ _ e
      have hln : ws.length = fs.length := (Paired.length rf).symm
      refine ⟨a, C, dx, ws, rfl, hw, c.c, c.n, by rw [hln]; exact hl, ?_⟩
      obtain ⟨e3, g3⟩ := ext_write (o := .ins C dx (putF f v ws)) (g := .ins C (putFA f y fs)) g2 e fun k => ⟨dx, _, upd_same, (RFs.put rf (r1.up e2.toKept)).up k⟩
      exact hd.nx _ _ _ _ h2 ((e1.trans e2).trans e3) g3 (hs.up ((e1.trans e2).trans e3).toKept)
    | _ => exact False.elim h2
end
/-- where a method stands -/
structure MethAt (K : PySem.W.Frag) (C : Addr) (m qual : Str) (st : Stmt) (ps : List Str) : Prop where
  ex : ∃ (f : Addr) (fd : FuncData), Fun K m qual st f fd ∧ Meth K C m f ∧ Binds K fd ps []
structure MethOk (P : Program) (w : World) (K : PySem.W.Frag) (mg : Str → Option Value) (base : Heap) (k : Nat) (C : Addr) (m : Str) (asp : ASp) : Prop where
  ex : ∃ (f : Addr) (fd : FuncData) (ps : List Str), FnOk P w K mg base (CX P w) k f fd ps (lowF K asp) ∧ Meth K C m f ∧ Binds K fd ps []
/-- where a class's __init__ stands; ds the defaults' values -/
structure MakeAt (K : PySem.W.Frag) (mg : Str → Option Value) (x qual : Str) (C : Addr) (st : Stmt) (ps : List Str) : Prop where
  ex : mg x = some (.ref C) ∧ ∃ (f : Addr) (fd : FuncData), Fun K "__init__" qual st f fd ∧ Mk K C f ∧ Binds K fd ps []
structure MakeOk (P : Program) (w : World) (K : PySem.W.Frag) (mg : Str → Option Value) (base : Heap) (k : Nat) (x : Str) (C : Addr) (asp : ASp) : Prop where
  ex : mg x = some (.ref C) ∧ ∃ (f : Addr) (fd : FuncData) (ps : List Str), FnOk P w K mg base (CX P w) k f fd ps (lowF K asp) ∧ Mk K C f ∧ Binds K fd ps []
section
variable {P : Program} {w : World} {K : PySem.W.Frag} {mg : Str → Option Value} {base : Heap} {C : Addr}
theorem MethOk.mono {j k : Nat} {x : Str} {asp : ASp} (D : MethOk P w K mg base j C x asp) (h : j ≤ k) : MethOk P w K mg base k C x asp :=
  let ⟨f, fd, ps, F, r⟩ := D.ex; ⟨f, fd, ps, F.mono h, r⟩
theorem MethAt.ok {m qual : Str} {st : Stmt} {N ps : List Str} {k : Nat} {asp : ASp} (T : MethAt K C m qual st ps) (S : FnScope N ps (defScope st)) (len : ∀ xs G Q E, asp xs G Q E → xs.length = ps.length)
    (hbody : ∀ (f : Addr) (cdv : Value) (A : Around) (outer : List Env) (s : Shared) (H : Hp) (E : XK) (W : WW), Tk (bX P w K mg base N qual st f cdv A outer s H E) W →
      PassesOwn (model P w) (bX P w K mg base N qual st f cdv A outer s H E).A (bX P w K mg base N qual st f cdv A outer s H E).env (bX P w K mg base N qual st f cdv A outer s H E).xe →
      Room k (bX P w K mg base N qual st f cdv A outer s H E).A → ∀ xs G Q0 E0, asp xs G Q0 E0 →
      ∃ t, ASs (bX P w K mg base N qual st f cdv A outer s H E) W (defBody st) t ∧ t { nx := fun _ G' => dropQ Q0 .non G', rt := dropQ Q0, ex := fun c _ G' => dropE E0 c G' } (startA N xs) G) :
    MethOk P w K mg base (k + 1) C m asp := by
  obtain ⟨f, fd, F, hm, hb⟩ := T.ex
  exact ⟨f, fd, ps, fn_okA F S len hbody, hm, hb⟩
theorem MakeAt.ok {x qual : Str} {st : Stmt} {N ps : List Str} {k : Nat} {asp : ASp} (T : MakeAt K mg x qual C st ps) (S : FnScope N ps (defScope st)) (len : ∀ xs G Q E, asp xs G Q E → xs.length = ps.length)
    (hbody : ∀ (f : Addr) (cdv : Value) (A : Around) (outer : List Env) (s : Shared) (H : Hp) (E : XK) (W : WW), Tk (bX P w K mg base N qual st f cdv A outer s H E) W →
      PassesOwn (model P w) (bX P w K mg base N qual st f cdv A outer s H E).A (bX P w K mg base N qual st f cdv A outer s H E).env (bX P w K mg base N qual st f cdv A outer s H E).xe →
      Room k (bX P w K mg base N qual st f cdv A outer s H E).A → ∀ xs G Q0 E0, asp xs G Q0 E0 →
      ∃ t, ASs (bX P w K mg base N qual st f cdv A outer s H E) W (defBody st) t ∧ t { nx := fun _ G' => dropQ Q0 .non G', rt := dropQ Q0, ex := fun c _ G' => dropE E0 c G' } (startA N xs) G) :
    MakeOk P w K mg base (k + 1) x C asp := by
  obtain ⟨hc, f, fd, F, hm, hb⟩ := T.ex
  exact ⟨hc, f, fd, ps, fn_okA F S len hbody, hm, hb⟩
end
def isIns (C : Addr) (m : Str) (x : AV) (G : Gp) : Prop := onRef x fun a => ∃ fs, G a = some (.ins C fs) ∧ fs.lookup m = none
def aMeth (C : Addr) (m : Str) (asp : ASp) (to : AT) (t : ATA) : AT := fun ρ G Q E => to ρ G (fun x G1 => isIns C m x G1 ∧ t ρ G1 (fun xs G2 => asp (x :: xs) G2 Q E) E) E
def aMake (C : Addr) (asp : ASp) (t : ATA) : AT := fun ρ G Q E => t ρ G (fun xs G1 => ∀ p G', New G1 p (.ins C []) G' → asp (.ref p :: xs) G' (fun v G2 => v = .non ∧ Q (.ref p) G2) E) E
abbrev WD (W : WW) : L2.St → XK := fun σ c d H => d = none ∧ W c σ H
section
variable {X : Cx} {W : WW} {o e : Expr} {es : List Expr} {f m x : Str} {p pos apos cpos : Pos} {to : AT} {t : ATA} {tt : TA} {tn : TE} {k : Nat} {C g : Addr} {fd : FuncData} {ps : List Str} {sp : Sp} {E : L2.St → XK} {asp : ASp}
def tMethA (C : Addr) (m : Str) (sp : Sp) (E : L2.St → XK) (ta : TE) (t : TA) : TE := fun σ H Q => ta σ H fun x H1 => ∃ a dx fs, x = .ref a ∧ H1 a = some (.ins C dx fs) ∧ fs.lookup m = none ∧ t σ H1 fun vs H2 => sp (x :: vs) H2 Q (E σ)
theorem pe_methA {pl : Sem Bool} (he : PE X o tn) (c : Cls X.K C) (hm : Meth X.K C m g) (F : FnOk X.prog X.w X.K X.mg X.base (CX X.prog X.w) k g fd ps sp) (hr : Room k X.A) (hb : Binds X.K fd ps []) (hx : ∀ σ, PassesAt (CX X.prog X.w) X σ (E σ)) (ha : PA X (e :: es) tt)
    (hst : starEach (e :: es) X.env = (false, eval e X.env) :: starEach es X.env) (hpl : (backTo pos (starEach es X.env)).any (·.1) = false)
    (ht : eval (.Call (.Attribute o m apos) (e :: es) [] pos) X.env = (do
      let ov ← eval o X.env
      standAt apos.atName
      let (f, first) ← holding [ov] (getMethod ov m pl)
      callWith pos f first (backTo pos (starEach (e :: es) X.env)) (backToKw pos (keywordEach [] X.env)))) :
    PE X (.Call (.Attribute o m apos) (e :: es) [] pos) (tMethA C m sp E tn tt) := by
  refine ⟨fun pins s σ H Q I h => ?_⟩
  refine PySem.W.methodCall_KW (pl := pl) (thn (he.run pins s σ H _ I h) fun u s1 ⟨x, H1, I1, rx, a, dx, fs, ex, ea, l, q⟩ => ?_) ht
  subst ex
  obtain rfl : u = Value.ref a := rx
  refine getmeth_ok I1 ea c hm l ?_
  refine PySem.W.callWith_K (first := [.ref a]) (h₀ := X.base) I.ok.mod.kin hm.kp (thn (ha.run pos pins s1 σ H1 _ I1 q) fun us s2 ⟨vs, H2, I2, r, q2⟩ => ⟨I2.kIn, ?_⟩) hst hpl
  exact run_fnS (us := .ref a :: us) (vs := .ref a :: vs) F hr hb (hx σ) I2 (.cons rfl r) q2
theorem pe_meth0A {pl : Sem Bool} (he : PE X o tn) (c : Cls X.K C) (hm : Meth X.K C m g) (F : FnOk X.prog X.w X.K X.mg X.base (CX X.prog X.w) k g fd ps sp) (hr : Room k X.A) (hb : Binds X.K fd ps []) (hx : ∀ σ, PassesAt (CX X.prog X.w) X σ (E σ))
    (ht : eval (.Call (.Attribute o m apos) [] [] pos) X.env = (do
      let ov ← eval o X.env
      standAt apos.atName
      let (f, first) ← holding [ov] (getMethod ov m pl)
      callWith pos f first (backTo pos (starEach [] X.env)) (backToKw pos (keywordEach [] X.env)))) :
    PE X (.Call (.Attribute o m apos) [] [] pos) (tMethA C m sp E tn tNil) := by
  refine ⟨fun pins s σ H Q I h => ?_⟩
  refine PySem.W.methodCall_KW (pl := pl) (thn (he.run pins s σ H _ I h) fun u s1 ⟨x, H1, I1, rx, a, dx, fs, ex, ea, l, q⟩ => ?_) ht
  subst ex
  obtain rfl : u = Value.ref a := rx
  refine getmeth_ok I1 ea c hm l ?_
  exact PySem.W.callWith_K0 (first := [.ref a]) I1.kIn hm.kp (run_fnS (us := [.ref a]) (vs := [.ref a]) F hr hb (hx σ) I1 (.cons rfl .nil) q)
theorem lift_meth {K : PySem.W.Frag} {σ : L2.St} {H : Hp} {Q : VK} : lowE K W (aMeth C m asp to t) σ H Q → tMethA C m (lowF K asp) (WD W) (lowE K W to) (lowA K W t) σ H Q := by
  rintro ⟨ρ, G, Q0, E0, hs, hg, h, hq, he⟩
  refine ⟨ρ, G, _, E0, hs, hg, h, ?_, he⟩
  intro x G1 v H1 ⟨hx, h1⟩ e1 g1 r1
  cases r1 with
  | ref a =>
    obtain ⟨fs, e, l⟩ := hx
    obtain ⟨dx, ws, hw, rf⟩ := g1 _ _ e
    refine ⟨a, dx, ws, rfl, hw, RFs.none rf l, ρ, G1, _, E0, hs.up e1.toKept, g1, h1, ?_, he.up e1⟩
    intro xs G2 vs H2 h2 e2 g2 r2
    exact ⟨_, G2, Q0, E0, .cons (.ref a) r2, g2, h2, hq.up (e1.trans e2), fun c G' H' hc e3 g3 => ⟨rfl, he c G' H' hc ((e1.trans e2).trans e3) g3⟩⟩
  | _ => exact False.elim hx
theorem ae_meth {pl : Sem Bool} (c : Cls X.K C) (D : MethOk X.prog X.w X.K X.mg X.base k C m asp) (hr : Room k X.A) (tk : Tk X W) (ho : AE X W o to) (ha : AArgs X W (e :: es) t)
    (hst : starEach (e :: es) X.env = (false, eval e X.env) :: starEach es X.env := by rfl) (hpl : (backTo pos (starEach es X.env)).any (·.1) = false := by rfl)
    (ht : eval (.Call (.Attribute o m apos) (e :: es) [] pos) X.env = (do
      let ov ← eval o X.env
      standAt apos.atName
      let (f, first) ← holding [ov] (getMethod ov m pl)
      callWith pos f first (backTo pos (starEach (e :: es) X.env)) (backToKw pos (keywordEach [] X.env))) := by rfl) :
    AE X W (.Call (.Attribute o m apos) (e :: es) [] pos) (aMeth C m asp to t) := by
  obtain ⟨g, fd, ps, F, hm, hb⟩ := D.ex
  exact peI (pe_methA (pl := pl) ho c hm F hr hb (fun σ => passAt tk σ) ha hst hpl ht) fun _ _ _ => lift_meth
theorem ae_meth0 {pl : Sem Bool} (c : Cls X.K C) (D : MethOk X.prog X.w X.K X.mg X.base k C m asp) (hr : Room k X.A) (tk : Tk X W) (ho : AE X W o to)
    (ht : eval (.Call (.Attribute o m apos) [] [] pos) X.env = (do
      let ov ← eval o X.env
      standAt apos.atName
      let (f, first) ← holding [ov] (getMethod ov m pl)
      callWith pos f first (backTo pos (starEach [] X.env)) (backToKw pos (keywordEach [] X.env))) := by rfl) :
    AE X W (.Call (.Attribute o m apos) [] [] pos) (aMeth C m asp to aNil) := by
  obtain ⟨g, fd, ps, F, hm, hb⟩ := D.ex
  refine peI (pe_meth0A (pl := pl) ho c hm F hr hb (fun σ => passAt tk σ) ht) fun σ H Q h => ?_
  obtain ⟨ρ, G, Q0, E0, hs, hg, h, hq, he⟩ := h
  refine ⟨ρ, G, _, E0, hs, hg, h, ?_, he⟩
  intro x G1 v H1 ⟨hx, h1⟩ e1 g1 r1
  cases r1 with
  | ref a =>
    obtain ⟨fs, e, l⟩ := hx
    obtain ⟨dx, ws, hw, rf⟩ := g1 _ _ e
    exact ⟨a, dx, ws, rfl, hw, RFs.none rf l, _, G1, Q0, E0, .cons (.ref a) .nil, g1, h1, hq.up e1, fun c G' H' hc e3 g3 => ⟨rfl, he c G' H' hc (e1.trans e3) g3⟩⟩
  | _ => exact False.elim hx
/-! C(..) -/
def tMakeA (C : Addr) (sp : Sp) (E : L2.St → XK) (t : TA) : TE := fun σ H Q => t σ H fun vs H1 => ∀ x dx, H1 x = none → H1 dx = none → dx ≠ x → sp (.ref x :: vs) (upd (upd H1 dx (.own x)) x (.ins C dx [])) (fun v H2 => v = .non ∧ Q (.ref x) H2) (E σ)
theorem run_makeA {pins : List (Addr × Obj)} {σ : L2.St} {H : Hp} {s : Shared} {Q : VK} {us : List Value} {vs : List V} {XE : XK} (M : Mk X.K C g) (F : FnOk X.prog X.w X.K X.mg X.base (CX X.prog X.w) k g fd ps sp) (hr : Room (k + 1) X.A) (hb : Binds X.K fd ps [])
    (hx : PassesAt (CX X.prog X.w) X σ XE) (I : Inv X pins σ H s) (r : Vals vs us)
    (h : ∀ x dx, H x = none → H dx = none → dx ≠ x → sp (.ref x :: vs) (upd (upd H dx (.own x)) x (.ins C dx [])) (fun v H2 => v = .non ∧ Q (.ref x) H2) XE) :
    wpAny (model X.prog X.w) X.A (call (.ref C) us) (EP X pins σ Q) X.xe s := by
  have hq := h (s.heap.objs.size + 1) s.heap.objs.size (I.hok.fresh (Nat.le_succ _)) (I.hok.fresh (Nat.le_refl _)) (Nat.ne_of_lt (Nat.lt_succ_self _))
  have I2 := Inv.made (C := C) I
  have r2 : Vals (V.ref (s.heap.objs.size + 1) :: vs) (Value.ref (s.heap.objs.size + 1) :: us) := .cons rfl r
  have hl : (Value.ref (s.heap.objs.size + 1) :: us).length = ps.length := by
    have e := r2.length
    rw [F.len _ _ _ _ hq] at e
    exact e.symm
  have b := hb _ (Value.ref (s.heap.objs.size + 1) :: us) I2.kIn (by rw [List.append_nil]; exact hl)
  rw [List.append_nil] at b
  refine wpAny_call (make_map (f := g) I.kIn M.makes M.init (beq_iff_eq.mp M.fn) (codeAny_mono (F.run _ X.stack _ _ ⟨Value.ref (s.heap.objs.size + 1) :: us, []⟩ (Value.ref (s.heap.objs.size + 1) :: us) _ _ XE (hr.make C us [])
    (I2.env0.make C us []) b r2 hq) fun r s' hq' => ?_))
  cases r with
  | error e => exact hx pins _ _ e s' I2 hq'
  | ok fl =>
    cases fl with
    | ret u =>
      obtain ⟨v, H', I3, rv, ev, q3⟩ := I2.after hq'
      subst ev
      exact ⟨rv, ⟨V.ref (s.heap.objs.size + 1), H', I3, rfl, q3⟩⟩
    | next => exact False.elim hq'
    | brk => exact False.elim hq'
    | cont => exact False.elim hq'
theorem pe_makeA (M : Mk X.K C g) (F : FnOk X.prog X.w X.K X.mg X.base (CX X.prog X.w) k g fd ps sp) (hr : Room (k + 1) X.A) (hg : Gl X x) (hm : X.mg x = some (.ref C)) (hb : Binds X.K fd ps []) (hx : ∀ σ, PassesAt (CX X.prog X.w) X σ (E σ))
    (ha : PA X (e :: es) tt) (hdb : (x == ("__debug__" : Str)) = false) (he : starEach (e :: es) X.env = (false, eval e X.env) :: starEach es X.env) (hpl : (backTo pos (starEach es X.env)).any (·.1) = false) :
    PE X (.Call (.Name x p) (e :: es) [] pos) (tMakeA C sp E tt) := by
  refine ⟨fun pins s σ H Q I h => ?_⟩
  refine wpAny_Call_Name_kw (ld_glob I hg hm ?_ hdb)
  refine PySem.W.callWith_K (h₀ := X.base) I.ok.mod.kin M.kp (thn (ha.run pos pins s σ H _ I h) fun us s1 ⟨vs, H1, I1, r, q⟩ => ⟨I1.kIn, ?_⟩) he hpl
  exact run_makeA M F hr hb (hx σ) I1 r q
theorem ae_make (D : MakeOk X.prog X.w X.K X.mg X.base k x C asp) (hr : Room (k + 1) X.A) (tk : Tk X W) (ha : AArgs X W (e :: es) t) (hg : Gl X x := by rfl)
    (hdb : (x == ("__debug__" : Str)) = false := by decide) (he : starEach (e :: es) X.env = (false, eval e X.env) :: starEach es X.env := by rfl) (hpl : (backTo pos (starEach es X.env)).any (·.1) = false := by rfl) :
    AE X W (.Call (.Name x p) (e :: es) [] pos) (aMake C asp t) := by
  obtain ⟨hc, g, fd, ps, F, hm, hb⟩ := D.ex
  refine peI (pe_makeA hm F hr hg hc hb (fun σ => passAt tk σ) ha hdb he hpl) fun σ H Q h => ?_
  obtain ⟨ρ, G, Q0, E0, hs, hg, h, hq, he⟩ := h
  refine ⟨ρ, G, _, E0, hs, hg, h, ?_, he⟩
  intro xs G1 vs H1 h1 e1 g1 r1 y dx hy hdx hne
  obtain ⟨e2, g2⟩ := ext_new (o := .own y) g1 hdx
  have hy2 : upd H1 dx (.own y) y = none := by rw [upd_ne (Ne.symm hne)]; exact hy
  obtain ⟨e3, g3⟩ := ext_alloc (o := .ins C dx []) (g := .ins C []) g2 hy2 fun k => ⟨dx, [], upd_same, .nil⟩
  have eq := e2.trans e3
  refine ⟨_, _, _, E0, .cons (.ref y) (r1.up eq.toKept), g3, h1 y _ ⟨rfl, g2.none hy2⟩, ?_, fun c G' H' hc e4 g4 => ⟨rfl, he c G' H' hc ((e1.trans eq).trans e4) g4⟩⟩
  intro v G2 v' H2 ⟨hv, h2⟩ e4 g4 r4
  subst hv
  cases r4
  exact ⟨rfl, hq _ _ _ _ h2 ((e1.trans eq).trans e4) g4 (.ref y)⟩
end
section
variable {K : PySem.W.Frag} {G : Gp} {Q : AK} {a : Addr} {y : AV} {f m : Str} {C : Addr} {P : Gp → Prop}
theorem fFld_ref : fFld K f (.ref a) G Q = ∃ C fs y, G a = some (.ins C fs) ∧ ClsA K C f ∧ fs.lookup f = some y ∧ Q y G := rfl
theorem fPut_ref : fPut K f (.ref a) y G P = ∃ C fs, G a = some (.ins C fs) ∧ ClsA K C f ∧ fs.length < 1000 ∧ P (gset G a (.ins C (putFA f y fs))) := rfl
theorem isIns_ref : isIns C m (.ref a) G = ∃ fs, G a = some (.ins C fs) ∧ fs.lookup m = none := rfl
end
end Rw
/-! methods, makers by the number of parameters; names of the top -/
namespace Rw
open PySem L2
theorem ae_globI {X : Cx} {W : WW} {x : Str} {pos : Pos} {i : Int} (h : ∃ t, X.mg x = some (.int i t)) (hg : Gl X x := by rfl) (hd : (x == ("__debug__" : Str)) = false := by decide) : AE X W (.Name x pos) (aC (.int i)) := by
  obtain ⟨t, h⟩ := h
  exact ae_glob (v := .int i) h ⟨_, rfl⟩ (fun _ => .int i) hg hd
theorem ae_globS {X : Cx} {W : WW} {x : Str} {pos : Pos} {z : Str} (h : ∃ t, X.mg x = some (.str z t)) (hg : Gl X x := by rfl) (hd : (x == ("__debug__" : Str)) = false := by decide) : AE X W (.Name x pos) (aC (.str z)) := by
  obtain ⟨t, h⟩ := h
  exact ae_glob (v := .str z) h ⟨_, rfl⟩ (fun _ => .str z) hg hd
theorem MethAt.ok1 {P : Program} {w : World} {K : PySem.W.Frag} {mg : Str → Option Value} {base : Heap} {C : Addr} {m qual : Str} {st : Stmt} {N ps : List Str} {k : Nat} {p : P1} (T : MethAt K C m qual st ps) (S : FnScope N ps (defScope st)) (hl : ps.length = 1)
    (hbody : ∀ (f : Addr) (cdv : Value) (A : Around) (outer : List Env) (s : Shared) (H : Hp) (E : XK) (W : WW), Tk (bX P w K mg base N qual st f cdv A outer s H E) W →
      PassesOwn (model P w) (bX P w K mg base N qual st f cdv A outer s H E).A (bX P w K mg base N qual st f cdv A outer s H E).env (bX P w K mg base N qual st f cdv A outer s H E).xe →
      Room k (bX P w K mg base N qual st f cdv A outer s H E).A → ∀ x1 G Q0 E0, p x1 G Q0 E0 →
      ∃ t, ASs (bX P w K mg base N qual st f cdv A outer s H E) W (defBody st) t ∧ t { nx := fun _ G' => dropQ Q0 .non G', rt := dropQ Q0, ex := fun c _ G' => dropE E0 c G' } (startA N [x1]) G) :
    MethOk P w K mg base (k + 1) C m (sp1 p) := by
  refine T.ok S (fun xs G Q E h => ?_) (fun f cdv A outer s H E W tk pw hr xs G Q0 E0 h => ?_)
  · unfold sp1 at h; split at h
    · exact hl.symm
    · exact h.elim
  · unfold sp1 at h; split at h
    · exact hbody f cdv A outer s H E W tk pw hr _ G Q0 E0 h
    · exact h.elim
theorem MakeAt.ok1 {P : Program} {w : World} {K : PySem.W.Frag} {mg : Str → Option Value} {base : Heap} {C : Addr} {x qual : Str} {st : Stmt} {N ps : List Str} {k : Nat} {p : P1} (T : MakeAt K mg x qual C st ps) (S : FnScope N ps (defScope st)) (hl : ps.length = 1)
    (hbody : ∀ (f : Addr) (cdv : Value) (A : Around) (outer : List Env) (s : Shared) (H : Hp) (E : XK) (W : WW), Tk (bX P w K mg base N qual st f cdv A outer s H E) W →
      PassesOwn (model P w) (bX P w K mg base N qual st f cdv A outer s H E).A (bX P w K mg base N qual st f cdv A outer s H E).env (bX P w K mg base N qual st f cdv A outer s H E).xe →
      Room k (bX P w K mg base N qual st f cdv A outer s H E).A → ∀ x1 G Q0 E0, p x1 G Q0 E0 →
      ∃ t, ASs (bX P w K mg base N qual st f cdv A outer s H E) W (defBody st) t ∧ t { nx := fun _ G' => dropQ Q0 .non G', rt := dropQ Q0, ex := fun c _ G' => dropE E0 c G' } (startA N [x1]) G) :
    MakeOk P w K mg base (k + 1) x C (sp1 p) := by
  refine T.ok S (fun xs G Q E h => ?_) (fun f cdv A outer s H E W tk pw hr xs G Q0 E0 h => ?_)
  · unfold sp1 at h; split at h
    · exact hl.symm
    · exact h.elim
  · unfold sp1 at h; split at h
    · exact hbody f cdv A outer s H E W tk pw hr _ G Q0 E0 h
    · exact h.elim
theorem MethAt.ok2 {P : Program} {w : World} {K : PySem.W.Frag} {mg : Str → Option Value} {base : Heap} {C : Addr} {m qual : Str} {st : Stmt} {N ps : List Str} {k : Nat} {p : P2} (T : MethAt K C m qual st ps) (S : FnScope N ps (defScope st)) (hl : ps.length = 2)
    (hbody : ∀ (f : Addr) (cdv : Value) (A : Around) (outer : List Env) (s : Shared) (H : Hp) (E : XK) (W : WW), Tk (bX P w K mg base N qual st f cdv A outer s H E) W →
      PassesOwn (model P w) (bX P w K mg base N qual st f cdv A outer s H E).A (bX P w K mg base N qual st f cdv A outer s H E).env (bX P w K mg base N qual st f cdv A outer s H E).xe →
      Room k (bX P w K mg base N qual st f cdv A outer s H E).A → ∀ x1 x2 G Q0 E0, p x1 x2 G Q0 E0 →
      ∃ t, ASs (bX P w K mg base N qual st f cdv A outer s H E) W (defBody st) t ∧ t { nx := fun _ G' => dropQ Q0 .non G', rt := dropQ Q0, ex := fun c _ G' => dropE E0 c G' } (startA N [x1, x2]) G) :
    MethOk P w K mg base (k + 1) C m (sp2 p) := by
  refine T.ok S (fun xs G Q E h => ?_) (fun f cdv A outer s H E W tk pw hr xs G Q0 E0 h => ?_)
  · unfold sp2 at h; split at h
    · exact hl.symm
    · exact h.elim
  · unfold sp2 at h; split at h
    · exact hbody f cdv A outer s H E W tk pw hr _ _ G Q0 E0 h
    · exact h.elim
theorem MakeAt.ok2 {P : Program} {w : World} {K : PySem.W.Frag} {mg : Str → Option Value} {base : Heap} {C : Addr} {x qual : Str} {st : Stmt} {N ps : List Str} {k : Nat} {p : P2} (T : MakeAt K mg x qual C st ps) (S : FnScope N ps (defScope st)) (hl : ps.length = 2)
    (hbody : ∀ (f : Addr) (cdv : Value) (A : Around) (outer : List Env) (s : Shared) (H : Hp) (E : XK) (W : WW), Tk (bX P w K mg base N qual st f cdv A outer s H E) W →
      PassesOwn (model P w) (bX P w K mg base N qual st f cdv A outer s H E).A (bX P w K mg base N qual st f cdv A outer s H E).env (bX P w K mg base N qual st f cdv A outer s H E).xe →
      Room k (bX P w K mg base N qual st f cdv A outer s H E).A → ∀ x1 x2 G Q0 E0, p x1 x2 G Q0 E0 →
      ∃ t, ASs (bX P w K mg base N qual st f cdv A outer s H E) W (defBody st) t ∧ t { nx := fun _ G' => dropQ Q0 .non G', rt := dropQ Q0, ex := fun c _ G' => dropE E0 c G' } (startA N [x1, x2]) G) :
    MakeOk P w K mg base (k + 1) x C (sp2 p) := by
  refine T.ok S (fun xs G Q E h => ?_) (fun f cdv A outer s H E W tk pw hr xs G Q0 E0 h => ?_)
  · unfold sp2 at h; split at h
    · exact hl.symm
    · exact h.elim
  · unfold sp2 at h; split at h
    · exact hbody f cdv A outer s H E W tk pw hr _ _ G Q0 E0 h
    · exact h.elim
theorem MethAt.ok3 {P : Program} {w : World} {K : PySem.W.Frag} {mg : Str → Option Value} {base : Heap} {C : Addr} {m qual : Str} {st : Stmt} {N ps : List Str} {k : Nat} {p : P3} (T : MethAt K C m qual st ps) (S : FnScope N ps (defScope st)) (hl : ps.length = 3)
    (hbody : ∀ (f : Addr) (cdv : Value) (A : Around) (outer : List Env) (s : Shared) (H : Hp) (E : XK) (W : WW), Tk (bX P w K mg base N qual st f cdv A outer s H E) W →
      PassesOwn (model P w) (bX P w K mg base N qual st f cdv A outer s H E).A (bX P w K mg base N qual st f cdv A outer s H E).env (bX P w K mg base N qual st f cdv A outer s H E).xe →
      Room k (bX P w K mg base N qual st f cdv A outer s H E).A → ∀ x1 x2 x3 G Q0 E0, p x1 x2 x3 G Q0 E0 →
      ∃ t, ASs (bX P w K mg base N qual st f cdv A outer s H E) W (defBody st) t ∧ t { nx := fun _ G' => dropQ Q0 .non G', rt := dropQ Q0, ex := fun c _ G' => dropE E0 c G' } (startA N [x1, x2, x3]) G) :
    MethOk P w K mg base (k + 1) C m (sp3 p) := by
  refine T.ok S (fun xs G Q E h => ?_) (fun f cdv A outer s H E W tk pw hr xs G Q0 E0 h => ?_)
  · unfold sp3 at h; split at h
    · exact hl.symm
    · exact h.elim
  · unfold sp3 at h; split at h
    · exact hbody f cdv A outer s H E W tk pw hr _ _ _ G Q0 E0 h
    · exact h.elim
theorem MakeAt.ok3 {P : Program} {w : World} {K : PySem.W.Frag} {mg : Str → Option Value} {base : Heap} {C : Addr} {x qual : Str} {st : Stmt} {N ps : List Str} {k : Nat} {p : P3} (T : MakeAt K mg x qual C st ps) (S : FnScope N ps (defScope st)) (hl : ps.length = 3)
    (hbody : ∀ (f : Addr) (cdv : Value) (A : Around) (outer : List Env) (s : Shared) (H : Hp) (E : XK) (W : WW), Tk (bX P w K mg base N qual st f cdv A outer s H E) W →
      PassesOwn (model P w) (bX P w K mg base N qual st f cdv A outer s H E).A (bX P w K mg base N qual st f cdv A outer s H E).env (bX P w K mg base N qual st f cdv A outer s H E).xe →
      Room k (bX P w K mg base N qual st f cdv A outer s H E).A → ∀ x1 x2 x3 G Q0 E0, p x1 x2 x3 G Q0 E0 →
      ∃ t, ASs (bX P w K mg base N qual st f cdv A outer s H E) W (defBody st) t ∧ t { nx := fun _ G' => dropQ Q0 .non G', rt := dropQ Q0, ex := fun c _ G' => dropE E0 c G' } (startA N [x1, x2, x3]) G) :
    MakeOk P w K mg base (k + 1) x C (sp3 p) := by
  refine T.ok S (fun xs G Q E h => ?_) (fun f cdv A outer s H E W tk pw hr xs G Q0 E0 h => ?_)
  · unfold sp3 at h; split at h
    · exact hl.symm
    · exact h.elim
  · unfold sp3 at h; split at h
    · exact hbody f cdv A outer s H E W tk pw hr _ _ _ G Q0 E0 h
    · exact h.elim
theorem MethAt.ok4 {P : Program} {w : World} {K : PySem.W.Frag} {mg : Str → Option Value} {base : Heap} {C : Addr} {m qual : Str} {st : Stmt} {N ps : List Str} {k : Nat} {p : P4} (T : MethAt K C m qual st ps) (S : FnScope N ps (defScope st)) (hl : ps.length = 4)
    (hbody : ∀ (f : Addr) (cdv : Value) (A : Around) (outer : List Env) (s : Shared) (H : Hp) (E : XK) (W : WW), Tk (bX P w K mg base N qual st f cdv A outer s H E) W →
      PassesOwn (model P w) (bX P w K mg base N qual st f cdv A outer s H E).A (bX P w K mg base N qual st f cdv A outer s H E).env (bX P w K mg base N qual st f cdv A outer s H E).xe →
      Room k (bX P w K mg base N qual st f cdv A outer s H E).A → ∀ x1 x2 x3 x4 G Q0 E0, p x1 x2 x3 x4 G Q0 E0 →
      ∃ t, ASs (bX P w K mg base N qual st f cdv A outer s H E) W (defBody st) t ∧ t { nx := fun _ G' => dropQ Q0 .non G', rt := dropQ Q0, ex := fun c _ G' => dropE E0 c G' } (startA N [x1, x2, x3, x4]) G) :
    MethOk P w K mg base (k + 1) C m (sp4 p) := by
  refine T.ok S (fun xs G Q E h => ?_) (fun f cdv A outer s H E W tk pw hr xs G Q0 E0 h => ?_)
  · unfold sp4 at h; split at h
    · exact hl.symm
    · exact h.elim
  · unfold sp4 at h; split at h
    · exact hbody f cdv A outer s H E W tk pw hr _ _ _ _ G Q0 E0 h
    · exact h.elim
theorem MakeAt.ok4 {P : Program} {w : World} {K : PySem.W.Frag} {mg : Str → Option Value} {base : Heap} {C : Addr} {x qual : Str} {st : Stmt} {N ps : List Str} {k : Nat} {p : P4} (T : MakeAt K mg x qual C st ps) (S : FnScope N ps (defScope st)) (hl : ps.length = 4)
    (hbody : ∀ (f : Addr) (cdv : Value) (A : Around) (outer : List Env) (s : Shared) (H : Hp) (E : XK) (W : WW), Tk (bX P w K mg base N qual st f cdv A outer s H E) W →
      PassesOwn (model P w) (bX P w K mg base N qual st f cdv A outer s H E).A (bX P w K mg base N qual st f cdv A outer s H E).env (bX P w K mg base N qual st f cdv A outer s H E).xe →
      Room k (bX P w K mg base N qual st f cdv A outer s H E).A → ∀ x1 x2 x3 x4 G Q0 E0, p x1 x2 x3 x4 G Q0 E0 →
      ∃ t, ASs (bX P w K mg base N qual st f cdv A outer s H E) W (defBody st) t ∧ t { nx := fun _ G' => dropQ Q0 .non G', rt := dropQ Q0, ex := fun c _ G' => dropE E0 c G' } (startA N [x1, x2, x3, x4]) G) :
    MakeOk P w K mg base (k + 1) x C (sp4 p) := by
  refine T.ok S (fun xs G Q E h => ?_) (fun f cdv A outer s H E W tk pw hr xs G Q0 E0 h => ?_)
  · unfold sp4 at h; split at h
    · exact hl.symm
    · exact h.elim
  · unfold sp4 at h; split at h
    · exact hbody f cdv A outer s H E W tk pw hr _ _ _ _ G Q0 E0 h
    · exact h.elim
theorem MethAt.ok5 {P : Program} {w : World} {K : PySem.W.Frag} {mg : Str → Option Value} {base : Heap} {C : Addr} {m qual : Str} {st : Stmt} {N ps : List Str} {k : Nat} {p : P5} (T : MethAt K C m qual st ps) (S : FnScope N ps (defScope st)) (hl : ps.length = 5)
    (hbody : ∀ (f : Addr) (cdv : Value) (A : Around) (outer : List Env) (s : Shared) (H : Hp) (E : XK) (W : WW), Tk (bX P w K mg base N qual st f cdv A outer s H E) W →
      PassesOwn (model P w) (bX P w K mg base N qual st f cdv A outer s H E).A (bX P w K mg base N qual st f cdv A outer s H E).env (bX P w K mg base N qual st f cdv A outer s H E).xe →
      Room k (bX P w K mg base N qual st f cdv A outer s H E).A → ∀ x1 x2 x3 x4 x5 G Q0 E0, p x1 x2 x3 x4 x5 G Q0 E0 →
      ∃ t, ASs (bX P w K mg base N qual st f cdv A outer s H E) W (defBody st) t ∧ t { nx := fun _ G' => dropQ Q0 .non G', rt := dropQ Q0, ex := fun c _ G' => dropE E0 c G' } (startA N [x1, x2, x3, x4, x5]) G) :
    MethOk P w K mg base (k + 1) C m (sp5 p) := by
  refine T.ok S (fun xs G Q E h => ?_) (fun f cdv A outer s H E W tk pw hr xs G Q0 E0 h => ?_)
  · unfold sp5 at h; split at h
    · exact hl.symm
    · exact h.elim
  · unfold sp5 at h; split at h
    · exact hbody f cdv A outer s H E W tk pw hr _ _ _ _ _ G Q0 E0 h
    · exact h.elim
theorem MakeAt.ok5 {P : Program} {w : World} {K : PySem.W.Frag} {mg : Str → Option Value} {base : Heap} {C : Addr} {x qual : Str} {st : Stmt} {N ps : List Str} {k : Nat} {p : P5} (T : MakeAt K mg x qual C st ps) (S : FnScope N ps (defScope st)) (hl : ps.length = 5)
    (hbody : ∀ (f : Addr) (cdv : Value) (A : Around) (outer : List Env) (s : Shared) (H : Hp) (E : XK) (W : WW), Tk (bX P w K mg base N qual st f cdv A outer s H E) W →
      PassesOwn (model P w) (bX P w K mg base N qual st f cdv A outer s H E).A (bX P w K mg base N qual st f cdv A outer s H E).env (bX P w K mg base N qual st f cdv A outer s H E).xe →
      Room k (bX P w K mg base N qual st f cdv A outer s H E).A → ∀ x1 x2 x3 x4 x5 G Q0 E0, p x1 x2 x3 x4 x5 G Q0 E0 →
      ∃ t, ASs (bX P w K mg base N qual st f cdv A outer s H E) W (defBody st) t ∧ t { nx := fun _ G' => dropQ Q0 .non G', rt := dropQ Q0, ex := fun c _ G' => dropE E0 c G' } (startA N [x1, x2, x3, x4, x5]) G) :
    MakeOk P w K mg base (k + 1) x C (sp5 p) := by
  refine T.ok S (fun xs G Q E h => ?_) (fun f cdv A outer s H E W tk pw hr xs G Q0 E0 h => ?_)
  · unfold sp5 at h; split at h
    · exact hl.symm
    · exact h.elim
  · unfold sp5 at h; split at h
    · exact hbody f cdv A outer s H E W tk pw hr _ _ _ _ _ G Q0 E0 h
    · exact h.elim
theorem MethAt.ok6 {P : Program} {w : World} {K : PySem.W.Frag} {mg : Str → Option Value} {base : Heap} {C : Addr} {m qual : Str} {st : Stmt} {N ps : List Str} {k : Nat} {p : P6} (T : MethAt K C m qual st ps) (S : FnScope N ps (defScope st)) (hl : ps.length = 6)
    (hbody : ∀ (f : Addr) (cdv : Value) (A : Around) (outer : List Env) (s : Shared) (H : Hp) (E : XK) (W : WW), Tk (bX P w K mg base N qual st f cdv A outer s H E) W →
      PassesOwn (model P w) (bX P w K mg base N qual st f cdv A outer s H E).A (bX P w K mg base N qual st f cdv A outer s H E).env (bX P w K mg base N qual st f cdv A outer s H E).xe →
      Room k (bX P w K mg base N qual st f cdv A outer s H E).A → ∀ x1 x2 x3 x4 x5 x6 G Q0 E0, p x1 x2 x3 x4 x5 x6 G Q0 E0 →
      ∃ t, ASs (bX P w K mg base N qual st f cdv A outer s H E) W (defBody st) t ∧ t { nx := fun _ G' => dropQ Q0 .non G', rt := dropQ Q0, ex := fun c _ G' => dropE E0 c G' } (startA N [x1, x2, x3, x4, x5, x6]) G) :
    MethOk P w K mg base (k + 1) C m (sp6 p) := by
  refine T.ok S (fun xs G Q E h => ?_) (fun f cdv A outer s H E W tk pw hr xs G Q0 E0 h => ?_)
  · unfold sp6 at h; split at h
    · exact hl.symm
    · exact h.elim
  · unfold sp6 at h; split at h
    · exact hbody f cdv A outer s H E W tk pw hr _ _ _ _ _ _ G Q0 E0 h
    · exact h.elim
theorem MakeAt.ok6 {P : Program} {w : World} {K : PySem.W.Frag} {mg : Str → Option Value} {base : Heap} {C : Addr} {x qual : Str} {st : Stmt} {N ps : List Str} {k : Nat} {p : P6} (T : MakeAt K mg x qual C st ps) (S : FnScope N ps (defScope st)) (hl : ps.length = 6)
    (hbody : ∀ (f : Addr) (cdv : Value) (A : Around) (outer : List Env) (s : Shared) (H : Hp) (E : XK) (W : WW), Tk (bX P w K mg base N qual st f cdv A outer s H E) W →
      PassesOwn (model P w) (bX P w K mg base N qual st f cdv A outer s H E).A (bX P w K mg base N qual st f cdv A outer s H E).env (bX P w K mg base N qual st f cdv A outer s H E).xe →
      Room k (bX P w K mg base N qual st f cdv A outer s H E).A → ∀ x1 x2 x3 x4 x5 x6 G Q0 E0, p x1 x2 x3 x4 x5 x6 G Q0 E0 →
      ∃ t, ASs (bX P w K mg base N qual st f cdv A outer s H E) W (defBody st) t ∧ t { nx := fun _ G' => dropQ Q0 .non G', rt := dropQ Q0, ex := fun c _ G' => dropE E0 c G' } (startA N [x1, x2, x3, x4, x5, x6]) G) :
    MakeOk P w K mg base (k + 1) x C (sp6 p) := by
  refine T.ok S (fun xs G Q E h => ?_) (fun f cdv A outer s H E W tk pw hr xs G Q0 E0 h => ?_)
  · unfold sp6 at h; split at h
    · exact hl.symm
    · exact h.elim
  · unfold sp6 at h; split at h
    · exact hbody f cdv A outer s H E W tk pw hr _ _ _ _ _ _ G Q0 E0 h
    · exact h.elim
end Rw
/-! more words: texts walked, max, min, count, index, pop(i), str(int) -/
namespace Rw
open PySem L2
/-! ### for c in text -/
def signsA (z : Str) : List AV := z.cps.toList.map fun c => .str ⟨#[c]⟩
def srStr (t : AT) : ASrc := fun ρ G R E => t ρ G (fun x G1 => match x with | .str z => R (signsA z) (fun _ => True) G1 | _ => False) E
section
variable {X : Cx} {W : WW} {tg iter : Expr} {body : List Stmt} {g : ATG} {tb : ATS} {pos : Pos}
theorem as_forS {t : AT} (hp : PassesOwn (model X.prog X.w) X.A X.env X.xe) (hc : X.calm = true) (hi : AE X W iter t) (hg : AG X W tg g) (hb : ASs X W body tb)
    (hs : ∀ x, foldedSetIterable iter X.env x = pure x := by intro _; rfl) : AS X W (.For tg iter body [] pos) (aFor (srStr t) g tb) :=
  psI (ps_for hp hc (pi_str hi) hg hb hs) fun D σ H ⟨ρ, G, D0, hs, hg, h, hd⟩ => by
    refine ⟨ρ, G, _, _, hs, hg, h, ?_, hd.ex.at hs⟩
    intro x G1 v H1 h1 e1 g1 r1
    cases r1 with
    | str z =>
      obtain ⟨I, h0, _, hst, hdn⟩ := h1
      have hlen : (signsA z).length = z.cps.size := by unfold signsA; rw [List.length_map, Array.length_toList]
      refine ⟨z, rfl, for_it walk_str (PvI X.K G1 H1 I) ⟨ρ, G1, hs.up e1.toKept, g1, .refl, h0⟩ (fun _ _ _ _ _ => trivial) ?_ ?_⟩
      · rintro i x σ H' H2 hi p ⟨rfl, c, hc, rfl⟩
        obtain ⟨ρ', G', hs', hg', e', hI⟩ := id p
        have hx : (signsA z)[i]? = some (.str ⟨#[c]⟩) := by unfold signsA; rw [List.getElem?_map, Array.getElem?_toList, hc]; rfl
        exact loop_turn2 (hd.up e1) hst hx p (.str _)
      · intro σ H' p
        obtain ⟨ρ', G', hs', hg', e', hI⟩ := p
        rw [← hlen] at hI
        exact (hd.up e1).nx _ _ _ _ (hdn _ _ hI) e' hg' hs'
    | _ => exact False.elim h1
end
/-! ### max, min of a row of numbers -/
def fMax1 : AFN := fun xs G Q => match xs with
  | [.ref a] => ∃ ns : List Int, G a = some (.lst (ns.map AV.int)) ∧ 0 < ns.length ∧ ∀ m, m ∈ ns → (∀ y, y ∈ ns → y ≤ m) → Q (.int m) G
  | _ => False
def fMin1 : AFN := fun xs G Q => match xs with
  | [.ref a] => ∃ ns : List Int, G a = some (.lst (ns.map AV.int)) ∧ 0 < ns.length ∧ ∀ m, m ∈ ns → (∀ y, y ∈ ns → m ≤ y) → Q (.int m) G
  | _ => False
theorem lf_max1 {K : PySem.W.Frag} : LiftN K (rMax K) fMax1 := by
  intro xs vs G H Q0 Q r hg h hq
  unfold fMax1 at h
  split at h
  · obtain ⟨v, rfl, rx⟩ := r.one
    cases rx
    obtain ⟨ns, e, hl, h⟩ := h
    obtain ⟨vs, hv, l1⟩ := hg _ _ e
    have := l1.ints
    subst this
    exact ⟨_, ns, rfl, SqL.of hv, hl, fun m h1 h2 => hq _ _ _ _ (h m h1 h2) .refl hg (.int _)⟩
  · exact h.elim
theorem lf_min1 {K : PySem.W.Frag} : LiftN K (rMin K) fMin1 := by
  intro xs vs G H Q0 Q r hg h hq
  unfold fMin1 at h
  split at h
  · obtain ⟨v, rfl, rx⟩ := r.one
    cases rx
    obtain ⟨ns, e, hl, h⟩ := h
    obtain ⟨vs, hv, l1⟩ := hg _ _ e
    have := l1.ints
    subst this
    exact ⟨_, ns, rfl, SqL.of hv, hl, fun m h1 h2 => hq _ _ _ _ (h m h1 h2) .refl hg (.int _)⟩
  · exact h.elim
/-! ### str(n) -/
def fStr1 : AFN := fun xs G Q => match xs with
  | [.int i] => i.natAbs.log2 < 1920 ∧ Q (.str (toString i)) G
  | _ => False
theorem lf_str1 {K : PySem.W.Frag} : LiftN K (fun xs H Q => ∃ i, xs = [.int i] ∧ i.natAbs.log2 < 1920 ∧ Q (.str (toString i)) H) fStr1 := by
  intro xs vs G H Q0 Q r hg h hq
  unfold fStr1 at h
  split at h
  · obtain ⟨v, rfl, rx⟩ := r.one
    cases rx
    exact ⟨_, rfl, h.1, hq _ _ _ _ h.2 .refl hg (.str _)⟩
  · exact h.elim
/-! ### count, index, pop(i) -/
def fCount : AFM := fun x xs G Q => match x, xs with
  | .ref a, [.int k] => ∃ ns : List Int, G a = some (.lst (ns.map AV.int)) ∧ Q (.int (ns.count k : Nat)) G
  | _, _ => False
theorem lf_count {K : PySem.W.Frag} : LiftM K (rCntI K) fCount := by
  intro x v xs vs G H Q0 Q rx rs hg h hq
  unfold fCount at h
  split at h
  · cases rx
    obtain ⟨w, rfl, rw'⟩ := rs.one
    cases rw'
    obtain ⟨ns, e, h⟩ := h
    obtain ⟨us, hv, l1⟩ := hg _ _ e
    have := l1.ints
    subst this
    exact ⟨_, ns, _, rfl, rfl, SqL.of hv, hq _ _ _ _ h .refl hg (.int _)⟩
  · exact h.elim
def fIndex : AFM := fun x xs G Q => match x, xs with
  | .ref a, [y] => ∃ ys j z, G a = some (.lst ys) ∧ flatA y = true ∧ ys.all flatA = true ∧ ys[j]? = some z ∧ L2.eqV (toV z) (toV y) = true ∧ (∀ (m : Nat) z', m < j → ys[m]? = some z' → L2.eqV (toV z') (toV y) = false) ∧ Q (.int (j : Nat)) G
  | _, _ => False
theorem lf_index {K : PySem.W.Frag} : LiftM K (rIndex K) fIndex := by
  intro x v xs vs G H Q0 Q rx rs hg h hq
  unfold fIndex at h
  split at h
  · cases rx
    obtain ⟨w, rfl, rw'⟩ := rs.one
    obtain ⟨ys, j, z, e, f1, f2, hz, he, hn, h⟩ := h
    obtain ⟨us, hv, l1⟩ := hg _ _ e
    obtain ⟨e1, e2⟩ := rw'.flat f1
    obtain ⟨e3, e4⟩ := l1.flat f2
    subst e1 e3
    refine ⟨_, _, _, j, toV z, rfl, rfl, SqL.of hv, e2, e4, by rw [List.getElem?_map, hz]; rfl, he, fun m z' hm hz' => ?_, hq _ _ _ _ h .refl hg (.int _)⟩
    obtain ⟨y', hy', rfl⟩ := map_get hz'
    exact hn m y' hm hy'
  · exact h.elim
def fPop1 : AFM := fun x xs G Q => match x, xs with
  | .ref l, [.int i] => ∃ ys k y, G l = some (.lst ys) ∧ i = (k : Nat) ∧ k < 1000000 ∧ ys[k]? = some y ∧ Q y (gset G l (.lst (ys.eraseIdx k)))
  | _, _ => False
theorem lf_pop1 {K : PySem.W.Frag} : LiftM K rPopAt fPop1 := by
  intro x v xs vs G H Q0 Q rx rs hg h hq
  unfold fPop1 at h
  split at h
  · cases rx
    obtain ⟨w, rfl, rw'⟩ := rs.one
    cases rw'
    obtain ⟨ys, k, y, e, rfl, hk, hy, h⟩ := h
    obtain ⟨us, hv, l1⟩ := hg _ _ e
    obtain ⟨u, hu, ru⟩ := l1.get hy
    have hlt : k < us.length := (List.getElem?_eq_some_iff.mp hu).1
    refine ⟨_, _, _, k, u, rfl, rfl, hv, by omega, by omega, ?_, hu, wr_lst hg e (l1.eraseIdx k) ru h hq⟩
    rw [seqIndex_of (by omega) (by omega)]
    simp
  · exact h.elim
section
variable {X : Cx} {W : WW} {e : Expr} {es : List Expr} {t : ATA} {p pos apos cpos : Pos}
theorem ae_max1 (hm : X.mg "max" = none) (hc : X.calm = true) (ha : AArgs X W (e :: es) t) (hg : Gl X "max" := by rfl) (he : starEach (e :: es) X.env = (false, eval e X.env) :: starEach es X.env := by rfl) (hpl : (backTo pos (starEach es X.env)).any (·.1) = false := by rfl) : AE X W (.Call (.Name "max" p) (e :: es) [] pos) (aCallB fMax1 t) :=
  ae_callB (cr_max hc) lf_max1 hm (by decide +kernel) ha hg (by decide) (by decide) he hpl
theorem ae_min1 (hm : X.mg "min" = none) (hc : X.calm = true) (ha : AArgs X W (e :: es) t) (hg : Gl X "min" := by rfl) (he : starEach (e :: es) X.env = (false, eval e X.env) :: starEach es X.env := by rfl) (hpl : (backTo pos (starEach es X.env)).any (·.1) = false := by rfl) : AE X W (.Call (.Name "min" p) (e :: es) [] pos) (aCallB fMin1 t) :=
  ae_callB (cr_min hc) lf_min1 hm (by decide +kernel) ha hg (by decide) (by decide) he hpl
theorem ae_str1 (hm : X.mg "str" = none) (ha : AArgs X W (e :: es) t) (hg : Gl X "str" := by rfl) (he : starEach (e :: es) X.env = (false, eval e X.env) :: starEach es X.env := by rfl) (hpl : (backTo pos (starEach es X.env)).any (·.1) = false := by rfl) : AE X W (.Call (.Name "str" p) (e :: es) [] pos) (aCallB fStr1 t) :=
  ae_callTy call_str_int lf_str1 hm (by decide +kernel) ha hg (by decide) (by decide) he hpl
theorem ae_count {o : Expr} {to : AT} (ho : AE X W o to) (ha : AArgs X W (e :: es) t)
    (hbase : attributeBase o "count" X.env (eval o X.env) = eval o X.env := by rfl)
    (hfew : ((backTo cpos (starEach (e :: es) X.env)).all (fun x => !x.1) && (backToKw cpos (keywordEach [] X.env)).all (fun x => x.1.isSome)
      && decide ((e :: es).length + ([] : List Keyword).length + (if ([] : List Keyword).isEmpty then 0 else 1) < 30)) = true := by rfl)
    (hline : (apos.endLine == cpos.line) = true := by rfl) (hs : starEach (e :: es) X.env = (false, eval e X.env) :: starEach es X.env := by rfl) (hplain : (backTo cpos (starEach es X.env)).any (·.1) = false := by rfl) :
    AE X W (.Call (.Attribute o "count" apos) (e :: es) [] cpos) (aBM "list" fCount to t) :=
  ae_bm PySem.F.plainAttrs_list PySem.F.slot_list_count PySem.F.type_list_count mt_lcount lf_count ho ha hbase hfew hline hs hplain
theorem ae_index {o : Expr} {to : AT} (ho : AE X W o to) (ha : AArgs X W (e :: es) t)
    (hbase : attributeBase o "index" X.env (eval o X.env) = eval o X.env := by rfl)
    (hfew : ((backTo cpos (starEach (e :: es) X.env)).all (fun x => !x.1) && (backToKw cpos (keywordEach [] X.env)).all (fun x => x.1.isSome)
      && decide ((e :: es).length + ([] : List Keyword).length + (if ([] : List Keyword).isEmpty then 0 else 1) < 30)) = true := by rfl)
    (hline : (apos.endLine == cpos.line) = true := by rfl) (hs : starEach (e :: es) X.env = (false, eval e X.env) :: starEach es X.env := by rfl) (hplain : (backTo cpos (starEach es X.env)).any (·.1) = false := by rfl) :
    AE X W (.Call (.Attribute o "index" apos) (e :: es) [] cpos) (aBM "list" fIndex to t) :=
  ae_bm PySem.F.plainAttrs_list PySem.F.slot_list_index PySem.F.type_list_index mt_index lf_index ho ha hbase hfew hline hs hplain
theorem ae_pop1 {o : Expr} {to : AT} (ho : AE X W o to) (ha : AArgs X W (e :: es) t)
    (hbase : attributeBase o "pop" X.env (eval o X.env) = eval o X.env := by rfl)
    (hfew : ((backTo cpos (starEach (e :: es) X.env)).all (fun x => !x.1) && (backToKw cpos (keywordEach [] X.env)).all (fun x => x.1.isSome)
      && decide ((e :: es).length + ([] : List Keyword).length + (if ([] : List Keyword).isEmpty then 0 else 1) < 30)) = true := by rfl)
    (hline : (apos.endLine == cpos.line) = true := by rfl) (hs : starEach (e :: es) X.env = (false, eval e X.env) :: starEach es X.env := by rfl) (hplain : (backTo cpos (starEach es X.env)).any (·.1) = false := by rfl) :
    AE X W (.Call (.Attribute o "pop" apos) (e :: es) [] cpos) (aBM "list" fPop1 to t) :=
  ae_bm PySem.F.plainAttrs_list PySem.F.slot_list_pop PySem.F.type_list_pop mt_popAt lf_pop1 ho ha hbase hfew hline hs hplain
end
/-! ### == of terms -/
theorem fEq_tm {neg : Bool} {G : Gp} {s t : Tm} {Q : AK} (hs : s.dat.canLay0 = true) (ht : t.dat.canLay0 = true) (hd : min s.depth t.depth < 264) (h : ∀ c : Bool, (c = true ↔ s = t) → Q (.bl (if neg = true then !c else c)) G) : fEq neg s.av t.av G Q := by
  have key : fEqD neg s.av t.av G Q := ⟨_, _, Tm.pd G s, Tm.pd G t, ⟨hs, ht, by have h1 := Tm.depth_dat s; have h2 := Tm.depth_dat t; omega⟩, h _ (Tm.eqv_dat s t)⟩
  cases s with
  | bl m =>
    cases t with
    | bl n =>
      have := h (decide (m = n)) (by simp)
      exact this
    | fn g ts => exact key
  | fn f ss => cases t <;> exact key
section
variable {G : Gp} {Q : AK} {a : Addr} {y : AV} {i k : Int}
theorem fMax1_ref : fMax1 [.ref a] G Q = ∃ ns : List Int, G a = some (.lst (ns.map AV.int)) ∧ 0 < ns.length ∧ ∀ m, m ∈ ns → (∀ y, y ∈ ns → y ≤ m) → Q (.int m) G := rfl
theorem fMin1_ref : fMin1 [.ref a] G Q = ∃ ns : List Int, G a = some (.lst (ns.map AV.int)) ∧ 0 < ns.length ∧ ∀ m, m ∈ ns → (∀ y, y ∈ ns → m ≤ y) → Q (.int m) G := rfl
theorem fStr1_int : fStr1 [.int i] G Q = (i.natAbs.log2 < 1920 ∧ Q (.str (toString i)) G) := rfl
theorem fCount_ref : fCount (.ref a) [.int k] G Q = ∃ ns : List Int, G a = some (.lst (ns.map AV.int)) ∧ Q (.int (ns.count k : Nat)) G := rfl
theorem fIndex_ref : fIndex (.ref a) [y] G Q = ∃ ys j z, G a = some (.lst ys) ∧ flatA y = true ∧ ys.all flatA = true ∧ ys[j]? = some z ∧ L2.eqV (toV z) (toV y) = true ∧ (∀ (m : Nat) z', m < j → ys[m]? = some z' → L2.eqV (toV z') (toV y) = false) ∧ Q (.int (j : Nat)) G := rfl
theorem fPop1_ref : fPop1 (.ref a) [.int i] G Q = ∃ ys k y, G a = some (.lst ys) ∧ i = (k : Nat) ∧ k < 1000000 ∧ ys[k]? = some y ∧ Q y (gset G a (.lst (ys.eraseIdx k))) := rfl
end
end Rw
/-! the order: weights, ranks, greater -/
namespace Rw
open PySem L2
instance : DecidableEq Tm := fun s t => decidable_of_iff (PyData.eqv s.dat t.dat = true) (Tm.eqv_dat s t)
def sgOf (S : List Sg) (f : Str) : Option Sg := S.find? fun s => decide (s.name = f)
def wOf (S : List Sg) (f : Str) : Nat := ((sgOf S f).map Sg.wt).getD 0
def arOf (S : List Sg) (f : Str) : Nat := ((sgOf S f).map Sg.ar).getD 0
def rkOf : List Sg → Str → Nat
  | [], _ => 0
  | s :: S, f => if s.name = f then 0 else rkOf S f + 1
def manyD (S : List Sg) : List (Key × AV) := S.map fun s => (.inr s.name, .int s.ar)
def weightsD (S : List Sg) : List (Key × AV) := S.map fun s => (.inr s.name, .int s.wt)
def ranksD : Nat → List Sg → List (Key × AV)
  | _, [] => []
  | i, s :: S => (.inr s.name, .int i) :: ranksD (i + 1) S
theorem keyS_eq {f g : Str} : decide ((Sum.inr f : Key) = Sum.inr g) = decide (f = g) := by
  by_cases h : f = g
  · subst h; simp
  · rw [decide_eq_false h, decide_eq_false (fun z => h (Sum.inr.inj z))]
theorem sgOf_cons {s : Sg} {S : List Sg} {f : Str} : sgOf (s :: S) f = if s.name = f then some s else sgOf S f := by
  unfold sgOf
  rw [List.find?_cons]
  by_cases h : s.name = f
  · rw [decide_eq_true h, if_pos h]
  · rw [decide_eq_false h, if_neg h]
theorem valA_map {g : Sg → AV} (S : List Sg) (f : Str) : valA (S.map fun s => ((.inr s.name : Key), g s)) (.inr f) = (sgOf S f).map g := by
  induction S with
  | nil => rfl
  | cons s S ih =>
    rw [sgOf_cons]
    unfold valA at ih ⊢
    rw [List.map_cons, List.find?_cons, keyS_eq]
    by_cases h : s.name = f
    · rw [decide_eq_true h, if_pos h]; rfl
    · rw [decide_eq_false h, if_neg h]; exact ih
theorem sgOf_some {S : List Sg} (hn : (S.map Sg.name).Nodup) {s : Sg} (hs : s ∈ S) : sgOf S s.name = some s := by
  induction S with
  | nil => cases hs
  | cons a S ih =>
    rw [List.map_cons, List.nodup_cons] at hn
    rw [sgOf_cons]
    rcases List.mem_cons.mp hs with rfl | hs
    · rw [if_pos rfl]
    · rw [if_neg (fun e => hn.1 (by rw [e]; exact List.mem_map.mpr ⟨s, hs, rfl⟩))]
      exact ih hn.2 hs
theorem valA_consS {f g : Str} {v : AV} {r : List (Key × AV)} : valA ((.inr g, v) :: r) (.inr f) = if g = f then some v else valA r (.inr f) := by
  unfold valA
  rw [List.find?_cons, keyS_eq]
  by_cases h : g = f
  · rw [decide_eq_true h, if_pos h]; rfl
  · rw [decide_eq_false h, if_neg h]
theorem valA_ranks {S : List Sg} {f : Str} (hf : f ∈ S.map Sg.name) : ∀ i, valA (ranksD i S) (.inr f) = some (.int ((i + rkOf S f : Nat) : Int)) := by
  induction S with
  | nil => cases hf
  | cons s S ih =>
    intro i
    rw [ranksD, valA_consS, rkOf]
    by_cases h : s.name = f
    · rw [if_pos h, if_pos h]; rfl
    · rw [if_neg h, if_neg h]
      rw [List.map_cons] at hf
      rcases List.mem_cons.mp hf with e | hf
      · exact absurd e.symm h
      · rw [ih hf (i + 1), show i + (rkOf S f + 1) = i + 1 + rkOf S f by omega]
theorem putA_new {kvs : List (Key × AV)} {k : Key} {v : AV} (h : ∀ p ∈ kvs, p.1 ≠ k) : putA kvs k v = kvs ++ [(k, v)] := by
  unfold putA
  rw [if_neg]
  intro z
  rw [List.any_eq_true] at z
  obtain ⟨p, hp, e⟩ := z
  exact h p hp (of_decide_eq_true e)
theorem valA_none {kvs : List (Key × AV)} {k : Key} (h : ∀ p ∈ kvs, p.1 ≠ k) : valA kvs k = none := by
  unfold valA
  rw [List.find?_eq_none.mpr (fun p hp => by simpa using h p hp)]
  rfl
theorem ranksD_append (i : Nat) (S T : List Sg) : ranksD i (S ++ T) = ranksD i S ++ ranksD (i + S.length) T := by
  induction S generalizing i with
  | nil => rfl
  | cons s S ih =>
    rw [List.cons_append, ranksD, ranksD, ih, List.length_cons, show i + (S.length + 1) = i + 1 + S.length by omega]
    rfl
theorem ranksD_len (i : Nat) (S : List Sg) : (ranksD i S).length = S.length := by
  induction S generalizing i with
  | nil => rfl
  | cons s S ih => rw [ranksD, List.length_cons, ih, List.length_cons]
theorem ranksD_keys {i : Nat} {S : List Sg} {p : Key × AV} (h : p ∈ ranksD i S) : ∃ s ∈ S, p.1 = .inr s.name := by
  induction S generalizing i with
  | nil => cases h
  | cons s S ih =>
    rw [ranksD] at h
    rcases List.mem_cons.mp h with rfl | h
    · exact ⟨s, List.mem_cons_self, rfl⟩
    · obtain ⟨t, ht, e⟩ := ih h
      exact ⟨t, List.mem_cons_of_mem _ ht, e⟩
/-- what signs an order takes -/
structure SigsOk (S : List Sg) : Prop where
  names : NamesOk (S.map Sg.name)
  len : 1 ≤ S.length ∧ S.length ≤ 20
  ar : ∀ s ∈ S, s.ar ≤ 4
  wt : ∀ s ∈ S, 1 ≤ s.wt ∧ s.wt ≤ 9
theorem SgOk.sigs {mx : Nat} {S : List Sg} (h : SgOk mx S) (hm : mx ≤ 4) : SigsOk S :=
  ⟨h.names, ⟨Nat.le_trans h.c1 (List.length_filter_le _ _), Nat.le_trans h.len (by decide)⟩, fun s hs => Nat.le_trans (h.ar s hs) hm, h.wt⟩
/-- an order's object -/
structure OrdAt (C : Addr) (S : List Sg) (p : Addr) (G : Gp) : Prop where
  ex : ∃ pl pm pw pr, G p = some (.ins C [("signs", .ref pl), ("many", .ref pm), ("weights", .ref pw), ("ranks", .ref pr)]) ∧ G pl = some (.lst (S.map Sg.av)) ∧ G pm = some (.dK (manyD S)) ∧ G pw = some (.dK (weightsD S)) ∧ G pr = some (.dK (ranksD 0 S))
theorem OrdAt.sub {C : Addr} {S : List Sg} {p : Addr} {G G' : Gp} (h : OrdAt C S p G) (s : GSub G G') : OrdAt C S p G' := by
  obtain ⟨pl, pm, pw, pr, h1, h2, h3, h4, h5⟩ := h.ex
  exact ⟨pl, pm, pw, pr, s _ _ h1, s _ _ h2, s _ _ h3, s _ _ h4, s _ _ h5⟩
theorem TOk.fn_inv {S : List Sg} {B : Int → Prop} {f : Str} {ts : List Tm} (h : TOk S B (.fn f ts)) : ∃ s ∈ S, f = s.name ∧ ts.length = s.ar ∧ ∀ t, t ∈ ts → TOk S B t := by
  cases h with
  | fn hs hl ht => exact ⟨_, hs, rfl, hl, ht⟩
theorem wOf_some {S : List Sg} (hn : (S.map Sg.name).Nodup) {s : Sg} (hs : s ∈ S) : wOf S s.name = s.wt := by unfold wOf; rw [sgOf_some hn hs]; rfl
theorem arOf_some {S : List Sg} (hn : (S.map Sg.name).Nodup) {s : Sg} (hs : s ∈ S) : arOf S s.name = s.ar := by unfold arOf; rw [sgOf_some hn hs]; rfl
theorem valA_weights {S : List Sg} (hn : (S.map Sg.name).Nodup) {s : Sg} (hs : s ∈ S) : valA (weightsD S) (.inr s.name) = some (.int (s.wt : Nat)) := by
  unfold weightsD; rw [valA_map (g := fun s => .int s.wt), sgOf_some hn hs]; rfl
theorem valA_many {S : List Sg} (hn : (S.map Sg.name).Nodup) {s : Sg} (hs : s ∈ S) : valA (manyD S) (.inr s.name) = some (.int (s.ar : Nat)) := by
  unfold manyD; rw [valA_map (g := fun s => .int s.ar), sgOf_some hn hs]; rfl
namespace Tm
mutual
def wt (S : List Sg) : Tm → Nat
  | .bl _ => 1
  | .fn f ts => wOf S f + wtL S ts
def wtL (S : List Sg) : List Tm → Nat
  | [] => 0
  | t :: ts => wt S t + wtL S ts
end
theorem wtL_sum (S : List Sg) : ∀ ts : List Tm, wtL S ts = (ts.map (wt S)).sum
  | [] => rfl
  | t :: ts => by rw [wtL, wtL_sum S ts]; rfl
def cov (s t : Tm) : Bool := t.flat.all fun n => decide (t.flat.count n ≤ s.flat.count n)
mutual
def gt (S : List Sg) : Tm → Tm → Bool
  | .bl m, t => if Tm.bl m = t ∨ cov (.bl m) t = false then false else if wt S (.bl m) ≠ wt S t then decide (wt S t < wt S (.bl m)) else false
  | .fn f ss, t => if Tm.fn f ss = t ∨ cov (.fn f ss) t = false then false else if wt S (.fn f ss) ≠ wt S t then decide (wt S t < wt S (.fn f ss)) else
    match t with
    | .bl _ => false
    | .fn g ts => if f ≠ g then decide (rkOf S g < rkOf S f) else gtL S ss ts
def gtL (S : List Sg) : List Tm → List Tm → Bool
  | [], _ => false
  | _ :: _, [] => false
  | s :: ss, t :: ts => if s = t then gtL S ss ts else gt S s t
end
end Tm
def Tm.gtI (S : List Sg) : Tm → Tm → Bool
  | .fn f ss, .fn g ts => if f ≠ g then decide (rkOf S g < rkOf S f) else Tm.gtL S ss ts
  | _, _ => false
theorem Tm.gt_def {S : List Sg} {s t : Tm} : Tm.gt S s t = if s = t ∨ Tm.cov s t = false then false else if s.wt S ≠ t.wt S then decide (t.wt S < s.wt S) else Tm.gtI S s t := by
  cases s <;> cases t <;> (rw [Tm.gt]; rfl)
theorem Tm.gt_no {S : List Sg} {s t : Tm} (h : s = t ∨ Tm.cov s t = false) : Tm.gt S s t = false := by rw [gt_def, if_pos h]
theorem Tm.gt_wt {S : List Sg} {s t : Tm} (h : ¬ s = t) (hc : Tm.cov s t = true) (hw : s.wt S ≠ t.wt S) : Tm.gt S s t = decide (t.wt S < s.wt S) := by
  rw [gt_def, if_neg (by rintro (z | z); exact h z; rw [hc] at z; cases z), if_pos hw]
theorem Tm.gt_in {S : List Sg} {s t : Tm} (h : ¬ s = t) (hc : Tm.cov s t = true) (hw : s.wt S = t.wt S) : Tm.gt S s t = Tm.gtI S s t := by
  rw [gt_def, if_neg (by rintro (z | z); exact h z; rw [hc] at z; cases z), if_neg (fun z => z hw)]
theorem zipTm_get {ss ts : List Tm} {i : Nat} {x : AV} (hx : (zipA (Tm.avL ss) (Tm.avL ts))[i]? = some x) : ∃ s t, ss[i]? = some s ∧ ts[i]? = some t ∧ x = .tup [s.av, t.av] := by
  unfold zipA at hx
  rw [List.getElem?_zipWith, Tm.avL_map, Tm.avL_map, List.getElem?_map, List.getElem?_map] at hx
  cases e1 : ss[i]? with
  | none => rw [e1] at hx; simp at hx
  | some s =>
    cases e2 : ts[i]? with
    | none => rw [e1, e2] at hx; simp at hx
    | some t => rw [e1, e2] at hx; cases hx; exact ⟨s, t, rfl, rfl, rfl⟩
theorem drop_cons {α : Type} {l : List α} {i : Nat} {a : α} (h : l[i]? = some a) : l.drop i = a :: l.drop (i + 1) := by
  obtain ⟨hi, e⟩ := List.getElem?_eq_some_iff.mp h
  rw [List.drop_eq_getElem_cons hi, e]
/-- a comparison's word -/
def tellOf (S : List Sg) (s t : Tm) : Str := if s = t then "same" else if Tm.gt S s t = true then "greater" else if Tm.gt S t s = true then "less" else "apart"
/-- a name's signs are letters -/
theorem letters_in : ∀ c : Nat, 97 ≤ c → c ≤ 122 → (Builtin.Str.occurrences ("abcdefghijklmnopqrstuvwxyz" : Str) ⟨#[c]⟩ 0 ("abcdefghijklmnopqrstuvwxyz" : Str).length 1).isEmpty = false := by
  intro c h1 h2
  have : ∀ d : Fin 26, (Builtin.Str.occurrences ("abcdefghijklmnopqrstuvwxyz" : Str) ⟨#[97 + d.val]⟩ 0 ("abcdefghijklmnopqrstuvwxyz" : Str).length 1).isEmpty = false := by decide +kernel
  have := this ⟨c - 97, by omega⟩
  have e : 97 + (c - 97) = c := by omega
  simp only [e] at this
  exact this
end Rw
/-! places, parts -/
namespace Rw
open PySem L2
namespace Tm
mutual
def places : Tm → List (List Nat)
  | .bl _ => [[]]
  | .fn _ ts => placesL 1 ts ++ [[]]
def placesL : Nat → List Tm → List (List Nat)
  | _, [] => []
  | k, t :: ts => (places t).map (k :: ·) ++ placesL (k + 1) ts
end
def part : Tm → List Nat → Option Tm
  | t, [] => some t
  | .bl _, _ :: _ => none
  | .fn _ ts, k :: p => if k = 0 then none else match ts[k - 1]? with
    | some t => part t p
    | none => none
def put : Tm → List Nat → Tm → Tm
  | _, [], u => u
  | .bl n, _ :: _, _ => .bl n
  | .fn f ts, k :: p, u => match ts[k - 1]? with
    | some t => .fn f (ts.set (k - 1) (put t p u))
    | none => .fn f ts
mutual
theorem places_len : ∀ t : Tm, t.places.length = t.size
  | .bl n => by rw [places, size]; rfl
  | .fn f ts => by
    rw [places, size, List.length_append, placesL_len 1 ts, List.length_singleton]
    omega
theorem placesL_len : ∀ (k : Nat) (ts : List Tm), (placesL k ts).length = sizeL ts
  | _, [] => by rw [placesL, sizeL]; rfl
  | k, t :: ts => by rw [placesL, sizeL, List.length_append, List.length_map, places_len t, placesL_len (k + 1) ts]
end
theorem placesL_append (k : Nat) (a b : List Tm) : placesL k (a ++ b) = placesL k a ++ placesL (k + a.length) b := by
  induction a generalizing k with
  | nil => rfl
  | cons t a ih => rw [List.cons_append, placesL, placesL, ih, List.length_cons, List.append_assoc, show k + (a.length + 1) = k + 1 + a.length by omega]
theorem mem_placesL {k : Nat} {ts : List Tm} {p : List Nat} : p ∈ placesL k ts ↔ ∃ j t q, ts[j]? = some t ∧ p = (k + j) :: q ∧ q ∈ t.places := by
  induction ts generalizing k with
  | nil => simp [placesL]
  | cons t ts ih =>
    rw [placesL, List.mem_append, List.mem_map, ih]
    constructor
    · rintro (⟨q, hq, rfl⟩ | ⟨j, u, q, h1, rfl, h3⟩)
      · exact ⟨0, t, q, rfl, rfl, hq⟩
      · exact ⟨j + 1, u, q, h1, by rw [show k + 1 + j = k + (j + 1) by omega], h3⟩
    · rintro ⟨j, u, q, h1, rfl, h3⟩
      cases j with
      | zero => simp at h1; subst h1; exact .inl ⟨q, h3, rfl⟩
      | succ j => exact .inr ⟨j, u, q, by simpa using h1, by rw [show k + 1 + j = k + (j + 1) by omega], h3⟩
theorem mem_places {t : Tm} {p : List Nat} : p ∈ t.places ↔ (part t p).isSome := by
  induction p generalizing t with
  | nil => cases t <;> simp [places, part]
  | cons k p ih =>
    cases t with
    | bl n => simp [places, part]
    | fn f ts =>
      rw [places, List.mem_append, mem_placesL, part]
      constructor
      · rintro (⟨j, t, q, h1, h2, h3⟩ | h)
        · cases h2
          rw [if_neg (by omega), show 1 + j - 1 = j by omega, h1]
          exact ih.mp h3
        · simp at h
      · intro h
        by_cases hk : k = 0
        · rw [if_pos hk] at h; cases h
        · rw [if_neg hk] at h
          cases e : ts[k - 1]? with
          | none => rw [e] at h; cases h
          | some t =>
            rw [e] at h
            exact .inl ⟨k - 1, t, p, e, by rw [show 1 + (k - 1) = k by omega], ih.mpr h⟩
theorem part_depth {t u : Tm} {p : List Nat} (h : part t p = some u) : p.length + u.depth ≤ t.depth ∧ u.size ≤ t.size := by
  induction p generalizing t with
  | nil => cases t <;> (rw [part] at h; cases h; simp)
  | cons k p ih =>
    cases t with
    | bl n => rw [part] at h; cases h
    | fn f ts =>
      rw [part] at h
      by_cases hk : k = 0
      · rw [if_pos hk] at h; cases h
      · rw [if_neg hk] at h
        cases e : ts[k - 1]? with
        | none => rw [e] at h; cases h
        | some t =>
          rw [e] at h
          have h1 := ih h
          have hm := List.mem_of_getElem? e
          have h2 := depth_le_of_mem hm
          have h3 := size_le_of_mem hm
          rw [depth, size, List.length_cons]
          omega
end Tm
def plA (p : List Nat) : AV := .tup (p.map fun k => .int (k : Nat))
def plD (p : List Nat) : PyData := .tuple (p.map fun k => .int (k : Nat))
theorem pd_pl {G : Gp} (p : List Nat) : PD G (plA p) (plD p) := .tup (PDL.map fun k _ => .int _)
theorem can_pl (p : List Nat) : (plD p).canLay0 = true := canAll_map (g := fun k : Nat => PyData.int (k : Nat)) fun _ _ => rfl
theorem depth_pls : ∀ p : List Nat, PyData.depthAll (p.map fun k => PyData.int (k : Nat)) ≤ 1
  | [] => by show PyData.depthAll [] ≤ 1; decide
  | n :: ns => by
    have := depth_pls ns
    show max (PyData.depth (.int (n : Nat))) (PyData.depthAll (ns.map fun k => PyData.int (k : Nat))) ≤ 1
    have h : PyData.depth (.int (n : Nat)) ≤ 1 := by rw [PyData.depth]; omega
    omega
theorem depth_pl (p : List Nat) : (plD p).depth ≤ 3 := by
  have := depth_pls p
  have e : (plD p).depth = PyData.depthAll (p.map fun k => PyData.int (k : Nat)) + 1 := by unfold plD; rw [PyData.depth]
  omega
theorem eqv_pl {p q : List Nat} : PyData.eqv (plD p) (plD q) = true ↔ p = q :=
  eqvAll_map (g := fun k : Nat => PyData.int (k : Nat)) (fun _ _ => by rw [eqv_int]; omega) p q
theorem fEq_pl {neg : Bool} {G : Gp} {p q : List Nat} {Q : AK} (h : ∀ c : Bool, (c = true ↔ p = q) → Q (.bl (if neg = true then !c else c)) G) : fEqD neg (plA p) (plA q) G Q :=
  ⟨_, _, pd_pl p, pd_pl q, ⟨can_pl p, can_pl q, by have := depth_pl p; omega⟩, h _ eqv_pl⟩
theorem sizeL_set {ts : List Tm} {i : Nat} {t u : Tm} (h : ts[i]? = some t) : Tm.sizeL (ts.set i u) + t.size = Tm.sizeL ts + u.size := by
  induction ts generalizing i with
  | nil => cases h
  | cons a ts ih =>
    cases i with
    | zero => simp at h; subst h; rw [List.set_cons_zero, Tm.sizeL, Tm.sizeL]; omega
    | succ i =>
      have := ih (i := i) (by simpa using h)
      rw [List.set_cons_succ, Tm.sizeL, Tm.sizeL]
      omega
theorem put_size (s v : Tm) (p : List Nat) : (Tm.put s p v).size ≤ s.size + v.size := by
  induction p generalizing s with
  | nil => cases s <;> (rw [Tm.put]; omega)
  | cons k p ih =>
    cases s with
    | bl n => rw [Tm.put]; omega
    | fn f ts =>
      rw [Tm.put]
      split
      · rename_i t e
        have h1 := sizeL_set (u := Tm.put t p v) e
        have h2 := ih t
        rw [Tm.size, Tm.size]
        omega
      · omega
theorem TOk.put {S : List Sg} {B : Int → Prop} {s v : Tm} {p : List Nat} (hs : TOk S B s) (hv : TOk S B v) : TOk S B (Tm.put s p v) := by
  induction p generalizing s with
  | nil => cases s <;> (rw [Tm.put]; exact hv)
  | cons k p ih =>
    cases s with
    | bl n => rw [Tm.put]; exact hs
    | fn f ts =>
      rw [Tm.put]
      split
      · rename_i t e
        obtain ⟨s', hm, rfl, hl, ht⟩ := hs.fn_inv
        refine .fn hm (by rw [List.length_set]; exact hl) fun u hu => ?_
        rcases List.mem_or_eq_of_mem_set hu with h | h
        · exact ht u h
        · rw [h]; exact ih (ht t (List.mem_of_getElem? e))
      · exact hs
theorem TOk.sub {S S' : List Sg} {B : Int → Prop} {t : Tm} (hS : ∀ s ∈ S, s ∈ S') (h : TOk S B t) : TOk S' B t := by
  induction h with
  | bl h => exact .bl h
  | fn hs hl _ ih => exact .fn (hS _ hs) hl ih
theorem sizeL_wt {S : List Sg} {ts : List Tm} (h : ∀ t, t ∈ ts → t.size ≤ t.wt S) : Tm.sizeL ts ≤ Tm.wtL S ts := by
  induction ts with
  | nil => rw [Tm.sizeL, Tm.wtL]; omega
  | cons a r ih =>
    rw [Tm.sizeL, Tm.wtL]
    have h1 := h a List.mem_cons_self
    have h2 := ih fun t ht => h t (List.mem_cons_of_mem _ ht)
    omega
/-- a sign weighs one at least -/
theorem TOk.size_wt {S : List Sg} {B : Int → Prop} {t : Tm} (hn : (S.map Sg.name).Nodup) (hw : ∀ s ∈ S, 1 ≤ s.wt) (h : TOk S B t) : t.size ≤ t.wt S := by
  induction h with
  | bl _ => rw [Tm.size, Tm.wt]; omega
  | fn hs hl _ ih =>
    rw [Tm.size, Tm.wt, wOf_some hn hs]
    have h1 := hw _ hs
    have h2 := sizeL_wt ih
    omega
theorem wtL_sz {S : List Sg} {ts : List Tm} (h : ∀ t, t ∈ ts → t.wt S ≤ 9 * t.size) : Tm.wtL S ts ≤ 9 * Tm.sizeL ts := by
  induction ts with
  | nil => rw [Tm.sizeL, Tm.wtL]; omega
  | cons a r ih =>
    rw [Tm.sizeL, Tm.wtL]
    have h1 := h a List.mem_cons_self
    have h2 := ih fun t ht => h t (List.mem_cons_of_mem _ ht)
    omega
theorem TOk.wt_size {S : List Sg} {B : Int → Prop} {t : Tm} (hn : (S.map Sg.name).Nodup) (hw : ∀ s ∈ S, s.wt ≤ 9) (h : TOk S B t) : t.wt S ≤ 9 * t.size := by
  induction h with
  | bl _ => rw [Tm.size, Tm.wt]; omega
  | fn hs hl _ ih =>
    rw [Tm.size, Tm.wt, wOf_some hn hs]
    have h1 := hw _ hs
    have h2 := wtL_sz ih
    omega
theorem depth_le_sz (t : Tm) : t.depth ≤ t.size := Tm.depth_le_size t
theorem SigsOk.rev {S : List Sg} (h : SigsOk S) : SigsOk S.reverse :=
  ⟨⟨fun x hx => h.names.ok x (by rw [List.map_reverse] at hx; exact List.mem_reverse.mp hx), by rw [List.map_reverse]; exact List.nodup_iff_pairwise_ne.mpr (List.pairwise_reverse.mpr ((List.nodup_iff_pairwise_ne.mp h.names.nd).imp fun h => h.symm))⟩, by rw [List.length_reverse]; exact h.len, fun s hs => h.ar s (List.mem_reverse.mp hs), fun s hs => h.wt s (List.mem_reverse.mp hs)⟩
theorem filter_ne {α : Type} {p : α → Bool} {l : List α} (h : 1 ≤ (l.filter p).length) : ∃ a r, l.filter p = a :: r ∧ a ∈ l ∧ p a = true := by
  cases e : l.filter p with
  | nil => rw [e] at h; simp at h
  | cons a r =>
    have : a ∈ l.filter p := by rw [e]; exact List.mem_cons_self
    exact ⟨a, r, rfl, (List.mem_filter.mp this).1, (List.mem_filter.mp this).2⟩
theorem upN_wt {S : List Sg} (hn : (S.map Sg.name).Nodup) {g : Sg} (hg : g ∈ S) (k : Nat) (t : Tm) : (Tm.upN g.name k t).wt S = k * g.wt + t.wt S := by
  induction k with
  | zero => rw [Tm.upN, Nat.zero_mul, Nat.zero_add]
  | succ k ih => rw [Tm.upN, Tm.wt, wOf_some hn hg, Tm.wtL, Tm.wtL, ih, Nat.add_mul, Nat.one_mul]; omega
theorem TOk.upN {S : List Sg} {B : Int → Prop} {g : Sg} (hg : g ∈ S) (ha : g.ar = 1) {t : Tm} (h : TOk S B t) (k : Nat) : TOk S B (Tm.upN g.name k t) := by
  induction k with
  | zero => exact h
  | succ k ih => exact .fn hg (by rw [ha]; rfl) fun u hu => by rw [List.mem_singleton.mp hu]; exact ih
theorem filter_name {S : List Sg} (hn : (S.map Sg.name).Nodup) {s : Sg} (hs : s ∈ S) : S.filter (fun z : Sg => decide (z.name = s.name)) = [s] := by
  induction S with
  | nil => cases hs
  | cons a S ih =>
    rw [List.map_cons, List.nodup_cons] at hn
    rw [List.filter_cons]
    rcases List.mem_cons.mp hs with rfl | hs
    · rw [if_pos (decide_eq_true rfl)]
      have : S.filter (fun z : Sg => decide (z.name = s.name)) = [] := by
        rw [List.filter_eq_nil_iff]
        intro z hz e
        exact hn.1 (by rw [← of_decide_eq_true e]; exact List.mem_map.mpr ⟨z, hz, rfl⟩)
      rw [this]
    · rw [if_neg (fun e => hn.1 (by rw [of_decide_eq_true e]; exact List.mem_map.mpr ⟨s, hs, rfl⟩))]
      exact ih hn.2 hs
theorem flat_names (S : List Sg) : (S.map fun z : Sg => AV.str z.name).all flatA = true := by
  rw [List.all_map, List.all_eq_true]; intro _ _; rfl
theorem rk_get {S : List Sg} {s : Sg} (hs : s ∈ S) : (S.map fun z : Sg => AV.str z.name)[rkOf S s.name]? = some (.str s.name) := by
  induction S with
  | nil => cases hs
  | cons a S ih =>
    rw [rkOf]
    by_cases h : a.name = s.name
    · rw [if_pos h, List.map_cons, List.getElem?_cons_zero, h]
    · rw [if_neg h, List.map_cons, List.getElem?_cons_succ]
      rcases List.mem_cons.mp hs with rfl | hs
      · exact absurd rfl h
      · exact ih hs
theorem rk_first {S : List Sg} {f : Str} {m : Nat} {z' : AV} (hlt : m < rkOf S f) (hz : (S.map fun z : Sg => AV.str z.name)[m]? = some z') : L2.eqV (toV z') (toV (.str f)) = false := by
  induction S generalizing m with
  | nil => cases hz
  | cons a S ih =>
    rw [rkOf] at hlt
    by_cases h : a.name = f
    · rw [if_pos h] at hlt; omega
    · rw [if_neg h] at hlt
      cases m with
      | zero =>
        simp at hz
        subst hz
        exact beq_eq_false_iff_ne.mpr h
      | succ m => exact ih (m := m) (by omega) (by simpa using hz)
theorem eqV_str_self {f : Str} : L2.eqV (toV (.str f)) (toV (.str f)) = true := beq_self_eq_true f
/-- the first place where two rows differ -/
theorem first_diff {ss ts : List Tm} (hl : ss.length = ts.length) (hne : ¬ ss = ts) :
    ∃ k r, ((List.range ss.length).filter fun j => decide (ss[j]? ≠ ts[j]?)).map (fun j : Nat => AV.int ((j + 1 : Nat) : Int)) = .int ((k + 1 : Nat) : Int) :: r ∧ ss[k]? ≠ ts[k]? ∧ ∀ j, j < k → ss[j]? = ts[j]? := by
  have hex : ∃ j, j < ss.length ∧ ss[j]? ≠ ts[j]? := by
    apply Classical.byContradiction
    intro hno
    apply hne
    refine List.ext_getElem? fun j => ?_
    by_cases hj : j < ss.length
    · apply Classical.byContradiction
      intro z
      exact hno ⟨j, hj, z⟩
    · rw [List.getElem?_eq_none (by omega), List.getElem?_eq_none (by omega)]
  have hne2 : (List.range ss.length).filter (fun j => decide (ss[j]? ≠ ts[j]?)) ≠ [] := by
    obtain ⟨j, hj, hd⟩ := hex
    intro z
    rw [List.filter_eq_nil_iff] at z
    exact z j (List.mem_range.mpr hj) (decide_eq_true hd)
  cases e : (List.range ss.length).filter (fun j => decide (ss[j]? ≠ ts[j]?)) with
  | nil => exact absurd e hne2
  | cons k r =>
    refine ⟨k, r.map (fun j : Nat => AV.int ((j + 1 : Nat) : Int)), rfl, ?_, ?_⟩
    · have hk : k ∈ (List.range ss.length).filter (fun j => decide (ss[j]? ≠ ts[j]?)) := by rw [e]; exact List.mem_cons_self
      exact of_decide_eq_true (List.mem_filter.mp hk).2
    · intro j hj
      apply Classical.byContradiction
      intro z
      have hk : k ∈ (List.range ss.length).filter (fun j => decide (ss[j]? ≠ ts[j]?)) := by rw [e]; exact List.mem_cons_self
      have hkl := List.mem_range.mp (List.mem_filter.mp hk).1
      have hmem : j ∈ (List.range ss.length).filter (fun j => decide (ss[j]? ≠ ts[j]?)) := List.mem_filter.mpr ⟨List.mem_range.mpr (by omega), decide_eq_true z⟩
      have hp : ((List.range ss.length).filter (fun j => decide (ss[j]? ≠ ts[j]?))).Pairwise (· < ·) := List.Pairwise.filter _ List.pairwise_lt_range
      rw [e] at hmem hp
      rcases List.mem_cons.mp hmem with rfl | hmem
      · omega
      · have := (List.pairwise_cons.mp hp).1 j hmem
        omega
theorem gtL_at {S : List Sg} {ss ts : List Tm} {k : Nat} (hk : ss[k]? ≠ ts[k]?) (hb : ∀ j, j < k → ss[j]? = ts[j]?) (hl : ss.length = ts.length) : ∃ a b, ss[k]? = some a ∧ ts[k]? = some b ∧ a ≠ b ∧ Tm.gtL S ss ts = Tm.gt S a b := by
  induction k generalizing ss ts with
  | zero =>
    cases ss with
    | nil =>
      cases ts with
      | nil => exact absurd rfl hk
      | cons b ts => simp at hl
    | cons a ss =>
      cases ts with
      | nil => simp at hl
      | cons b ts =>
        have hab : a ≠ b := fun z => hk (by simp [z])
        exact ⟨a, b, rfl, rfl, hab, by rw [Tm.gtL, if_neg hab]⟩
  | succ k ih =>
    cases ss with
    | nil =>
      cases ts with
      | nil => exact absurd rfl hk
      | cons b ts => simp at hl
    | cons a ss =>
      cases ts with
      | nil => simp at hl
      | cons b ts =>
        have hab : a = b := by simpa using hb 0 (by omega)
        obtain ⟨a', b', h1, h2, h3, h4⟩ := ih (ss := ss) (ts := ts) (by simpa using hk) (fun j hj => by simpa using hb (j + 1) (by omega)) (by simpa using hl)
        exact ⟨a', b', by simpa using h1, by simpa using h2, h3, by rw [Tm.gtL, if_pos hab]; exact h4⟩
theorem big6 {n : Nat} (h : n ≤ 1000000) : n ≤ sizeLine := Nat.le_trans h (by decide +kernel)
theorem big6' {n : Nat} (h : n ≤ 1000000) : n < sizeLine := Nat.lt_of_le_of_lt h (by decide +kernel)
theorem Tm.place_len {t : Tm} {p : List Nat} (h : p ∈ t.places) : p.length ≤ t.depth := by
  rw [mem_places] at h
  obtain ⟨u, hu⟩ := Option.isSome_iff_exists.mp h
  have := part_depth hu
  omega
theorem plA_cons {k : Nat} {p : List Nat} : AV.tup ([AV.int (k : Nat)] ++ p.map fun k => AV.int (k : Nat)) = plA (k :: p) := rfl
end Rw
/-! more words: is of bools -/
namespace Rw
open PySem L2
def fIsB (neg : Bool) : AF2 := fun x y G Q => match x, y with
  | .bl a, .bl b => Q (.bl (if neg = true then !decide (a = b) else decide (a = b))) G
  | _, _ => False
theorem lf_isB {K : PySem.W.Frag} : Lift2 K rIsB (fIsB false) := by
  intro x y v w G H Q0 Q rx ry hg h hq
  cases rx with
  | bl a =>
    cases ry with
    | bl b => exact ⟨a, b, rfl, rfl, hq _ _ _ _ h .refl hg (.bl _)⟩
    | _ => exact h.elim
  | _ => exact h.elim
theorem lf_isnB {K : PySem.W.Frag} : Lift2 K rNotB (fIsB true) := by
  intro x y v w G H Q0 Q rx ry hg h hq
  cases rx with
  | bl a =>
    cases ry with
    | bl b => exact ⟨a, b, rfl, rfl, hq _ _ _ _ h .refl hg (.bl _)⟩
    | _ => exact h.elim
  | _ => exact h.elim
theorem fIsB_bl {neg p q : Bool} {G : Gp} {Q : AK} : fIsB neg (.bl p) (.bl q) G Q = Q (.bl (if neg = true then !decide (p = q) else decide (p = q))) G := rfl
section
variable {X : Cx} {W : WW} {a b : Expr} {ta tb : AT} {pos : Pos}
theorem ae_isB (ha : AE X W a ta) (hb : AE X W b tb) : AE X W (.Compare a [.Is] [b] pos) (aOp2 (fIsB false) ta tb) := ae_cmp op_isBl lf_isB ha hb
theorem ae_isnB (ha : AE X W a ta) (hb : AE X W b tb) : AE X W (.Compare a [.IsNot] [b] pos) (aOp2 (fIsB true) ta tb) := ae_cmp op_notBl lf_isnB ha hb
theorem at_isB (ha : AE X W a ta) (hb : AE X W b tb) : ATest X W (.Compare a [.Is] [b] pos) (aTest (aOp2 (fIsB false) ta tb)) := at_cmp op_isBl lf_isB ha hb
theorem at_isnB (ha : AE X W a ta) (hb : AE X W b tb) : ATest X W (.Compare a [.IsNot] [b] pos) (aTest (aOp2 (fIsB true) ta tb)) := at_cmp op_notBl lf_isnB ha hb
end
/-! -n -/
def aNeg (t : AT) : AT := fun ρ G Q E => t ρ G (fun x G1 => onInt x fun i => Q (.int (-i)) G1) E
theorem ae_neg {X : Cx} {W : WW} {e : Expr} {t : AT} {pos : Pos} (h : AE X W e t) : AE X W (.UnaryOp .USub e pos) (aNeg t) :=
  peI (pe_un un_neg h) fun σ H Q ⟨ρ, G, Q0, E0, hs, hg, h, hq, he⟩ => by
    refine ⟨ρ, G, _, E0, hs, hg, h, ?_, he⟩
    intro x G1 v H1 h1 e1 g1 r1
    cases r1 with
    | int i => exact ⟨i, rfl, hq _ _ _ _ h1 e1 g1 (.int _)⟩
    | _ => exact False.elim h1
theorem sIx_m1 (n d : Nat) : HT.sIx n d (some (-1)) = n - 1 := by
  show (if (-1 : Int) < 0 then ((-1 : Int) + (n : Int)).toNat else min (-1 : Int).toNat n) = n - 1
  rw [if_pos (by decide)]
  omega
theorem cutA_m1 {α : Type} (xs : List α) : cutA xs none (some (-1)) = xs.dropLast := by
  unfold cutA
  rw [sIx_m1, show HT.sIx xs.length 0 none = 0 from rfl, List.drop_zero, Nat.sub_zero, List.dropLast_eq_take]
end Rw
/-! except X as e; isinstance(e, ..) in the suite -/
namespace Rw
open PySem L2 PySem.Spec PyProof.Rows
def rIsEA (K : PySem.W.Frag) (cls : Value) (a : Addr) : List V → Hp → VK → Prop := fun xs H Q => ∃ D, cls = .ref D ∧ ExcC K D ∧
  ((∃ (c : V) (cv : Value) (b : Bool), xs = [.ref a, c] ∧ (∀ u, RelV c u → u = cv) ∧ PySem.W.kitOne K (.ref D) cv = some b ∧ Q (.bl b) H) ∨
   ∃ (tp : Addr) (cs : List V) (us : List Value) (b : Bool), xs = [.ref a, .ref tp] ∧ H tp = some (.tup cs) ∧ Paired ClsV cs us ∧ PySem.W.kitAny K (.ref D) us = some b ∧ Q (.bl b) H)
theorem call_isEA {X : Cx} {a : Addr} {cls : Value} {oe : Obj} {pn : List (Addr × Obj)} (hz : Zc cls none oe) (hf : ∃ vs, oe.data = .fields vs) : CallR (X.suite a ((a, oe) :: pn)) (.builtin "isinstance") (rIsEA X.K cls a) := by
  intro pins s σ H xs us Q I r h
  obtain ⟨D, rfl, C, h⟩ := h
  obtain ⟨hget, _⟩ := I.pin (a, oe) (List.mem_append.mpr (.inl List.mem_cons_self))
  obtain ⟨vs, hv⟩ := hf
  have J : PySem.W.InstAt s.heap a oe D none := by
    obtain ⟨oc, od, oda, osl⟩ := oe
    obtain ⟨h1, h2⟩ := hz
    dsimp only at h1 h2 hv
    subst h1 h2 hv
    exact ⟨hget, rfl, rfl, trivial⟩
  have Z := PySem.W.handS_kitx_exc (x := a) (ox := oe) C.hg C.hk C.hs C.hd C.ha C.hn C.ht C.hm
  rcases h with ⟨c, cv, b, rfl, hcv, e, q⟩ | ⟨tp, cs, ws, b, rfl, hT, k, e, q⟩
  · cases r with
    | cons rx rr =>
      cases rr with
      | cons rt rr =>
        cases rr
        cases rx
        have ec := hcv _ rt
        subst ec
        exact PySem.W.kia_one Z I.kIn J e (fun z => nomatch z) fun tk => ⟨.bl b, H, I.kept (t' := tk) fun _ _ z => z, rfl, q⟩
  · obtain ⟨u1, u2, rfl, r1, r2⟩ := vals2 r
    cases (show u2 = Value.ref tp from r2)
    cases (show u1 = Value.ref a from r1)
    obtain ⟨_, its, rv, o, h1, h2, n, h3⟩ := (show ObjOk X.prog X.w H s.heap tp (.tup cs) from I.hok tp _ hT)
    have e3 := ClsV.all k rv
    subst e3
    obtain ⟨oc, od, dt, sl⟩ := o
    simp only at h2 h3
    subst h2 h3
    exact PySem.W.kia_tup Z I.kIn J h1 e (fun z => nomatch z) fun tk => ⟨.bl b, H, I.kept (t' := tk) fun _ _ z => z, rfl, q⟩
def fIsE (K : PySem.W.Frag) (cls : Value) (a : Addr) : AFN := fun xs G Q => match xs with
  | [.ref b, .ref C] => b = a ∧ ∃ D r, cls = .ref D ∧ ExcC K D ∧ PySem.W.kitOne K (.ref D) (.ref C) = some r ∧ Q (.bl r) G
  | [.ref b, .ty n] => b = a ∧ ∃ D r, cls = .ref D ∧ ExcC K D ∧ PySem.W.kitOne K (.ref D) (.type n) = some r ∧ Q (.bl r) G
  | [.ref b, .tup cs] => b = a ∧ ∃ D r, cls = .ref D ∧ ExcC K D ∧ ∃ us : List Addr, cs = us.map AV.ref ∧ PySem.W.kitAny K (.ref D) (us.map Value.ref) = some r ∧ Q (.bl r) G
  | _ => False
theorem refs_cls {K : PySem.W.Frag} {H : Hp} : ∀ {us : List Addr} {vs : List V}, RepL K H (us.map AV.ref) vs → Paired ClsV vs (us.map Value.ref)
  | [], _, r => by cases r; exact .nil
  | u :: us, _, r => by
    cases r with
    | cons r1 r2 => cases r1; exact .cons (.own u) (refs_cls r2)
theorem lf_isE {K : PySem.W.Frag} {cls : Value} {a : Addr} : LiftN K (rIsEA K cls a) (fIsE K cls a) := by
  intro xs vs G H Q0 Q r hg h hq
  unfold fIsE at h
  split at h
  · obtain ⟨rfl, D, b, hc, he, hk, hQ⟩ := h
    obtain ⟨v, w, rfl, rx, rc⟩ := r.two
    cases rx; cases rc
    exact ⟨D, hc, he, .inl ⟨_, _, b, rfl, fun u hu => hu, hk, hq _ _ _ _ hQ .refl hg (.bl _)⟩⟩
  · obtain ⟨rfl, D, b, hc, he, hk, hQ⟩ := h
    obtain ⟨v, w, rfl, rx, rc⟩ := r.two
    cases rx; cases rc
    exact ⟨D, hc, he, .inl ⟨_, _, b, rfl, fun u hu => hu, hk, hq _ _ _ _ hQ .refl hg (.bl _)⟩⟩
  · obtain ⟨rfl, D, b, hc, he, us, rfl, hk, hQ⟩ := h
    obtain ⟨v, w, rfl, rx, rc⟩ := r.two
    cases rx
    cases rc with
    | tup ht hl => exact ⟨D, hc, he, .inr ⟨_, _, _, b, rfl, ht, refs_cls hl, hk, hq _ _ _ _ hQ .refl hg (.bl _)⟩⟩
  · exact h.elim
/-- an own class as a value -/
def aCls (mg : Str → Option Value) (x : Str) : AT := fun _ G Q _ => ∀ C : Addr, mg x = some (.ref C) → Q (.ref C) G
theorem ae_cls {X : Cx} {W : WW} {mg : Str → Option Value} {x : Str} {pos : Pos} (e : XcAt X.K mg x) (hm : X.mg = mg := by rfl) (hg : Gl X x := by rfl) (hd : (x == ("__debug__" : Str)) = false := by decide) : AE X W (.Name x pos) (aCls mg x) := by
  subst hm
  obtain ⟨C, hC, _⟩ := e.ex
  exact peI (pe_glob (v := V.ref C) hg hC rfl hd) fun σ H Q ⟨ρ, G, Q0, E0, hs, hg, h, hq, he⟩ => hq _ _ _ _ (h C hC) .refl hg (.ref C)
/-- try .. except X as n -/
def aTryAs (K : PySem.W.Frag) (mg : Str → Option Value) (y : Str) (i : Nat) (t : ATS) (ts : Addr → Value → ATS) : ATS := fun D ρ G => t { D with ex := fun c ρ' G' => ∀ D', mg y = some D' → ∃ b, PySem.W.exmOne K c D' = some b ∧
  (b = true → ∀ a, G' a = none → ts a c { nx := fun ρ2 G2 => D.nx (ρ2.set i none) G2, rt := D.rt, bk := fun ρ2 G2 => D.bk (ρ2.set i none) G2, ct := fun ρ2 G2 => D.ct (ρ2.set i none) G2, ex := fun _ _ _ => False } (ρ'.set i (some (.ref a))) G') ∧ (b = false → D.ex c ρ' G') } ρ G
theorem as_tryAs {X : Cx} {W : WW} {i : Nat} {x n : Str} {body suite : List Stmt} {b₀ : Stmt} {np pos pos' : Pos} {t : ATS} {ts : Addr → Value → ATS} (tk : Tk X W) (e : XcAt X.K X.mg x) (hs : X.stack = X.env :: X.outer) (hf : X.env.frame = some X.env.locals) (hN : X.N.Nodup) (hi : X.N[i]? = some n) (hln : X.env.kindOf n = some .local)
    (hb : ∀ (W' : WW) (pn : List (Addr × Obj)) (xe : Value → Shared → Prop), Tk (X.tr pn xe) W' → PassesOwn (model X.prog X.w) X.A X.env xe → ASs (X.tr pn xe) W' body t)
    (hsu : ∀ (a : Addr) (oe : Obj) (cls : Value) (pn : List (Addr × Obj)), Zc cls none oe → (∃ vs, oe.data = .fields vs) → ASs (X.suite a ((a, oe) :: pn)) W0 (b₀ :: suite) (ts a cls)) (hg : Gl X x := by rfl) (hdb : (x == ("__debug__" : Str)) = false := by decide) :
    AS X W (.Try body [.ExceptHandler (some (.Name x np)) (some n) (b₀ :: suite) pos'] [] [] pos) (aTryAs X.K X.mg x i t ts) := by
  obtain ⟨C, gC, _⟩ := e.ex
  refine psI (ps_try_as (i := i) (c := .ref C) (tb := fun W' => lowS X.K (fun c σ H => W' c none σ H) t) (ts := fun a cls d D σ H => d = none ∧ lowS X.K W0 (ts a cls) D σ H) hs hf hN hi hln ⟨hg, hdb, .inl gC⟩ tk (fun W' pn xe tk' po => hb (fun c σ H => W' c none σ H) pn xe (tk'.imp fun c d σ H ⟨z, h⟩ => by subst z; exact h) po) fun a oe cls d pn hz hf => ?_) ?_
  · refine ⟨fun pins s σ H D I h => ?_⟩
    obtain ⟨rfl, h⟩ := h
    exact (hsu a oe cls pn hz hf).run pins s σ H D I h
  rintro D σ H ⟨ρ, G, D0, hs, hg, h, hd⟩
  refine ⟨ρ, G, _, hs, hg, h, ⟨hd.nx, hd.rt, hd.bk, hd.ct, ?_⟩⟩
  intro c ρ' G' σ' H' he e g s
  obtain ⟨b, hb1, h1, h2⟩ := he _ gC
  refine ⟨b, hb1, fun ht a ha => ⟨rfl, ρ'.set i (some (.ref a)), G', _, s.set i (.ref a), g, h1 ht a (g.none ha), ?_⟩, fun hf => ⟨rfl, hd.ex c ρ' G' σ' H' (h2 hf) e g s⟩⟩
  have l := hd.up e
  exact ⟨fun ρ2 G2 σ2 H2 a b c d => l.nx _ _ _ _ a b c (d.unset i), l.rt, fun ρ2 G2 σ2 H2 a b c d => l.bk _ _ _ _ a b c (d.unset i), fun ρ2 G2 σ2 H2 a b c d => l.ct _ _ _ _ a b c (d.unset i), fun _ _ _ _ _ z => z.elim⟩
section
variable {X : Cx} {e : Expr} {es : List Expr} {t : ATA} {p pos : Pos}
theorem ae_isE {a : Addr} {cls : Value} {oe : Obj} {pn : List (Addr × Obj)} {W : WW} (hz : Zc cls none oe) (hf : ∃ vs, oe.data = .fields vs) (hm : X.mg "isinstance" = none) (ha : AArgs (X.suite a ((a, oe) :: pn)) W (e :: es) t) (hg : Gl (X.suite a ((a, oe) :: pn)) "isinstance" := by rfl)
    (he : starEach (e :: es) X.env = (false, eval e X.env) :: starEach es X.env := by rfl) (hpl : (backTo pos (starEach es X.env)).any (·.1) = false := by rfl) : AE (X.suite a ((a, oe) :: pn)) W (.Call (.Name "isinstance" p) (e :: es) [] pos) (aCallB (fIsE X.K cls a) t) :=
  ae_callB (X := X.suite a ((a, oe) :: pn)) (call_isEA hz hf) lf_isE hm rfl ha hg (by decide) (by decide) he hpl
end
theorem bt_ValueError : bootBuiltins "ValueError" = some (.type "ValueError") := by decide +kernel
end Rw
/-! for k in d: the dict is locked meanwhile; d[k], k in d of a locked dict -/
namespace Rw
open PySem L2 PySem.Spec PyProof.Rows
/-- the ends of a statement that runs while the dict is locked -/
def unl (D : AEnds) (a : Addr) (od : Obj) (ws : List (Key × V)) (kvs : List (Key × AV)) : AEnds where
  nx := fun ρ G => G a = some (.fz od ws kvs) ∧ D.nx ρ (gset G a (.dK kvs))
  rt := fun x G => G a = some (.fz od ws kvs) ∧ D.rt x (gset G a (.dK kvs))
  bk := fun ρ G => G a = some (.fz od ws kvs) ∧ D.bk ρ (gset G a (.dK kvs))
  ct := fun ρ G => G a = some (.fz od ws kvs) ∧ D.ct ρ (gset G a (.dK kvs))
  ex := D.ex
theorem fz_back {K : PySem.W.Frag} {G : Gp} {H : Hp} {a : Addr} {od : Obj} {ws : List (Key × V)} {kvs : List (Key × AV)} (hg : SimG K G H) (h : G a = some (.fz od ws kvs)) :
    H a = some (.frz od (.dK ws)) ∧ Ext G H (gset G a (.dK kvs)) (upd H a (.dK ws)) ∧ SimG K (gset G a (.dK kvs)) (upd H a (.dK ws)) := by
  obtain ⟨h1, h2⟩ := hg _ _ h
  exact ⟨h1, ext_write hg h fun k => ⟨ws, upd_same, h2.up k⟩⟩
theorem LEnds.lock {K : PySem.W.Frag} {W : WW} {G G1 : Gp} {H H1 : Hp} {D0 : AEnds} {D : Ends} {a : Addr} {od : Obj} {ws : List (Key × V)} {kvs : List (Key × AV)} (l : LEnds K W G H D0 D) (e0 : Ext G H G1 H1) :
    LEnds K W G1 H1 (unl D0 a od ws kvs) ⟨fun σ' H' => H' a = some (.frz od (.dK ws)) ∧ D.nx σ' (upd H' a (.dK ws)), fun v H' => H' a = some (.frz od (.dK ws)) ∧ D.rt v (upd H' a (.dK ws)), fun σ' H' => H' a = some (.frz od (.dK ws)) ∧ D.bk σ' (upd H' a (.dK ws)), fun σ' H' => H' a = some (.frz od (.dK ws)) ∧ D.ct σ' (upd H' a (.dK ws))⟩ where
  nx := fun ρ' G' σ' H' ⟨hf, hD⟩ e g s => by
    obtain ⟨h1, h2, h3⟩ := fz_back g hf
    exact ⟨h1, l.nx _ _ _ _ hD (e0.trans (e.trans h2)) h3 (s.up h2.toKept)⟩
  rt := fun x G' v H' ⟨hf, hD⟩ e g r => by
    obtain ⟨h1, h2, h3⟩ := fz_back g hf
    exact ⟨h1, l.rt _ _ _ _ hD (e0.trans (e.trans h2)) h3 (r.up h2.toKept)⟩
  bk := fun ρ' G' σ' H' ⟨hf, hD⟩ e g s => by
    obtain ⟨h1, h2, h3⟩ := fz_back g hf
    exact ⟨h1, l.bk _ _ _ _ hD (e0.trans (e.trans h2)) h3 (s.up h2.toKept)⟩
  ct := fun ρ' G' σ' H' ⟨hf, hD⟩ e g s => by
    obtain ⟨h1, h2, h3⟩ := fz_back g hf
    exact ⟨h1, l.ct _ _ _ _ hD (e0.trans (e.trans h2)) h3 (s.up h2.toKept)⟩
  ex := l.ex.up e0
/-- a dict is walked by its keys -/
def aForD (t : AT) (g : ATG) (tb : ATS) : ATS := fun D ρ G => ∃ a kvs, G a = some (.dK kvs) ∧ ∀ od ws, t ρ (gset G a (.fz od ws kvs)) (fun x G1 => x = .ref a ∧ G1 a = some (.fz od ws kvs) ∧ loopI g tb (kvs.map fun kv => kA kv.1) (fun G => G a = some (.fz od ws kvs)) (unl D a od ws kvs) ρ G1) (atX D.ex ρ)
theorem RKV.key {K : PySem.W.Frag} {H : Hp} {kvs : List (Key × AV)} {ws : List (Key × V)} {i : Nat} {k : Key} {v : V} (r : RKV K H kvs ws) (h : ws[i]? = some (k, v)) : (kvs.map fun kv => kA kv.1)[i]? = some (kA k) := by
  unfold RKV at r
  induction r generalizing i with
  | nil => simp at h
  | @cons p q ps qs h1 t ih =>
    cases i with
    | zero => rw [List.getElem?_cons_zero] at h; cases h; rw [List.map_cons, List.getElem?_cons_zero, h1.1]
    | succ i => rw [List.getElem?_cons_succ] at h; rw [List.map_cons, List.getElem?_cons_succ]; exact ih h
theorem rep_kA {K : PySem.W.Frag} {H : Hp} (k : Key) : Rep K H (kA k) (kV k) := by cases k with | inl i => exact .int i | inr z => exact .str z
theorem as_forDK {X : Cx} {W : WW} {tg iter : Expr} {body : List Stmt} {g : ATG} {tb : ATS} {pos : Pos} {t : AT} (hp : PassesOwn (model X.prog X.w) X.A X.env X.xe) (hc : X.calm = true) (hi : AE X W iter t) (hg : AG X W tg g) (hb : ASs X W body tb)
    (hs : ∀ x, foldedSetIterable iter X.env x = pure x := by intro _; rfl) : AS X W (.For tg iter body [] pos) (aForD t g tb) :=
  psI (ps_lock (ps_for hp hc (pi_keys hi) hg hb hs)) fun D σ H ⟨ρ, G, D0, hs, hg, h, hd⟩ => by
    obtain ⟨a, kvs, eG, h⟩ := h
    obtain ⟨ws, hw, rk⟩ := hg _ _ eG
    refine ⟨a, .dK ws, hw, trivial, fun od => ?_⟩
    have h := h od ws
    obtain ⟨e0, g0⟩ := ext_write (o := .frz od (.dK ws)) (g := .fz od ws kvs) hg eG fun k => ⟨upd_same, rk.up k⟩
    have hd' := hd.lock (a := a) (od := od) (ws := ws) (kvs := kvs) e0
    refine ⟨ρ, _, _, _, hs.up e0.toKept, g0, h, ?_, hd'.ex.at (hs.up e0.toKept)⟩
    intro x G1 v H1 h1 e1 g1 r1
    obtain ⟨rfl, hf1, I, h0, hal, hst, hdn⟩ := h1
    cases r1
    obtain ⟨hH1, rk1⟩ := g1 _ _ hf1
    refine ⟨a, od, rfl, .inl ⟨ws, hH1, fun i m σ H' => m = ws.length - i ∧ i ≤ ws.length ∧ PvI X.K G1 H1 I i σ H', ⟨_, rfl, Nat.zero_le _, ρ, G1, (hs.up e0.toKept).up e1.toKept, g1, .refl, h0⟩, ?_⟩⟩
    rintro i m σ H' ⟨rfl, hi, p⟩
    obtain ⟨ρ', G', hs', hg', e', hI⟩ := id p
    obtain ⟨hH', rk'⟩ := hg' _ _ (hal _ _ _ hI)
    have hl := rk1.length
    by_cases hlt : i < ws.length
    · refine .inr ⟨⟨hH', hlt⟩, PvI X.K G1 H1 I (i + 1), fun σ' H2 p' => ⟨ws.length - (i + 1), by omega, rfl, hlt, p'⟩, fun y H2 ye => ?_⟩
      obtain ⟨rfl, k, v, hkv, rfl⟩ := ye
      exact loop_turn2 (hd'.up e1) hst (rk1.key hkv) ⟨ρ', G', hs', hg', e', hI⟩ (rep_kA k)
    · have ei : i = ws.length := by omega
      subst ei
      refine .inl ⟨⟨hH', Nat.le_refl _⟩, (hd'.up e1).nx _ _ _ _ (hdn _ _ ?_) e' hg' hs'⟩
      rw [List.length_map, ← hl]; exact hI
/-! ### d[k], k in d of a locked dict -/
def fDGetZ : AF2 := fun x y G Q => onRef x fun a => ∃ od ws kvs k v, G a = some (.fz od ws kvs) ∧ keyA y = some k ∧ valA kvs k = some v ∧ Q v G
def fDInZ (neg : Bool) : AF2 := fun y x G Q => onRef x fun a => ∃ od ws kvs k, G a = some (.fz od ws kvs) ∧ keyA y = some k ∧ Q (.bl (if neg = true then !(valA kvs k).isSome else (valA kvs k).isSome)) G
theorem dget_ofZ {K : PySem.W.Frag} {G : Gp} {H : Hp} {a : Addr} {od : Obj} {ws : List (Key × V)} {kvs : List (Key × AV)} {k : Key} {y : AV} {v : V} (hg : SimG K G H) (e : G a = some (.fz od ws kvs)) (hk : keyA y = some k) (ry : Rep K H y v) :
    ∃ o, DGet H a v o ∧ ((valA kvs k = none ∧ o = none) ∨ ∃ x u, valA kvs k = some x ∧ o = some u ∧ Rep K H x u) := by
  obtain ⟨hw, r⟩ := hg _ _ e
  have ev := keyA_rep hk ry
  subst ev
  exact ⟨_, .inl ⟨ws, k, .inr ⟨od, hw⟩, rfl, rfl⟩, r.val k⟩
section
variable {X : Cx} {W : WW} {o i e : Expr} {to ti te : AT} {pos : Pos} {k : Nat}
theorem ae_dgetZ (hr : Room k X.A) (ho : AE X W o to) (hi : AE X W i ti) (hs : NoSl i := by exact fun _ _ => rfl) : AE X W (.Subscript o i pos) (aOp2 fDGetZ to ti) :=
  peI (pe_dget (hu1 hr) ho hi hs) fun σ H Q ⟨ρ, G, Q0, E0, hs, hg, h, hq, he⟩ => by
    refine ⟨ρ, G, _, E0, hs, hg, h, ?_, he⟩
    intro x G1 v H1 h1 e1 g1 r1
    refine ⟨ρ, G1, _, E0, hs.up e1.toKept, g1, h1, ?_, he.up e1⟩
    intro y G2 w H2 h2 e2 g2 r2
    cases r1 with
    | ref a =>
      obtain ⟨od, ws, kvs, k, z, hd, hk, hv, h2⟩ := h2
      obtain ⟨o, d, ⟨n1, _⟩ | ⟨x', u, n1, rfl, ru⟩⟩ := dget_ofZ g2 hd hk r2
      · rw [hv] at n1; cases n1
      · rw [hv] at n1; cases n1
        exact ⟨a, u, rfl, d, hq _ _ _ _ h2 (e1.trans e2) g2 ru⟩
    | _ => exact False.elim h2
theorem lf_dinZ {K : PySem.W.Frag} : Lift2 K (fun y x H Q => ∃ a o, x = .ref a ∧ DGet H a y o ∧ Q (.bl o.isSome) H) (fDInZ false) := by
  intro y x v w G H Q0 Q ry rx hg h hq
  cases rx with
  | ref a =>
    obtain ⟨od, ws, kvs, k, hd, hk, h⟩ := h
    obtain ⟨o, d, ⟨n1, rfl⟩ | ⟨x', u, n1, rfl, ru⟩⟩ := dget_ofZ hg hd hk ry
    · rw [n1] at h; exact ⟨a, _, rfl, d, hq _ _ _ _ h .refl hg (.bl _)⟩
    · rw [n1] at h; exact ⟨a, _, rfl, d, hq _ _ _ _ h .refl hg (.bl _)⟩
  | _ => exact False.elim h
theorem ae_dinZ (hr : Room k X.A) (ha : AE X W e te) (hb : AE X W o to) (hm : behindInMarks .In o = false := by rfl) : AE X W (.Compare e [.In] [o] pos) (aOp2 (fDInZ false) te to) := ae_cmp (op_inD (hu1 hr)) lf_dinZ ha hb hm
theorem at_dinZ (hr : Room k X.A) (ha : AE X W e te) (hb : AE X W o to) (hm : behindInMarks .In o = false := by rfl) : ATest X W (.Compare e [.In] [o] pos) (aTest (aOp2 (fDInZ false) te to)) := at_cmp (op_inD (hu1 hr)) lf_dinZ ha hb hm
end
section
variable {G : Gp} {Q : AK} {a : Addr} {y : AV} {neg : Bool}
theorem fDGetZ_ref : fDGetZ (.ref a) y G Q = ∃ od ws kvs k v, G a = some (.fz od ws kvs) ∧ keyA y = some k ∧ valA kvs k = some v ∧ Q v G := rfl
theorem fDInZ_ref : fDInZ neg y (.ref a) G Q = ∃ od ws kvs k, G a = some (.fz od ws kvs) ∧ keyA y = some k ∧ Q (.bl (if neg = true then !(valA kvs k).isSome else (valA kvs k).isSome)) G := rfl
end
/-! fields in the contexts of try and except -/
theorem ae_fldK {X : Cx} {W : WW} {e : Expr} {f : Str} {te : AT} {pos : Pos} {K : PySem.W.Frag} (hK : X.K = K) (he : AE X W e te) (hb : attributeBase e f X.env (eval e X.env) = eval e X.env := by rfl) : AE X W (.Attribute e f pos) (aFld K f te) := by
  subst hK; exact ae_fld he hb
theorem as_fldK {X : Cx} {W : WW} {o value : Expr} {f : Str} {ta tv : AT} {pos pos' : Pos} {K : PySem.W.Frag} (hK : X.K = K) (ha : AE X W o ta) (hv : AE X W value tv) (hs : swapsWith value (some (.Attribute o f pos')) pos.line X.env = pure false := by rfl) : AS X W (.Assign [.Attribute o f pos'] value pos) (aPut K f ta tv) := by
  subst hK; exact as_fld ha hv hs
end Rw
/-! max(xs, default=d) of whole numbers -/
namespace Rw
open PySem L2 PySem.Spec PyProof.Rows
section
variable {prog : Program} {w : World} {A : Around} {R : Result → Shared → Prop} {I : Addr} {fp wr : List Addr} {n : Nat} {P : Nat → Value → Prop} {St : Nat → Heap → Prop}
theorem mx_name : (toString "max" ++ toString ".loop" : String) = "max.loop" := by decide
theorem mx_turns (L : Walks prog w A.in1 I fp wr n P St) (kw : List (Str × Value)) (bt : Nat → Nat → Bool) (hc : CmpOf prog w A.in1 .Gt P bt) (B : Addr) (hB : B ∉ fp) :
    ∀ (m i : Nat) (z : Shared) (v : Value) (c : Nat), n - (i + 1) = m → i + 1 ≤ n → St (i + 1) z.heap → P (argBest bt i) v →
    z.heap.get? B = some { cls := .type "list", dict := none, data := .seq #[v, v] c, slots := #[] } →
    (∀ u h1 tk, P (argBest bt (n - 1)) u → (∀ b o, b ∉ wr → b ≠ B → z.heap.get? b = some o → h1.get? b = some o) → R (.ok (.ret u)) { z with heap := h1, toks := tk }) →
    codeAny (model prog w) A (.builtin "max.loop" ⟨[.ref I, .none, .ref B], kw⟩) R z := by
  have hw : B ∉ wr := fun q => hB (L.sub _ q)
  intro m
  induction m with
  | zero =>
    intro i z v c hm hi st pv eB fin
    have en : i + 1 = n := by omega
    refine codeAny_builtin F.entry_max_loop ?_
    rw [Around.under_plainId F.plain_max_loop]
    show wpAny _ A.in1 (seqItems? (.ref B) >>= _) _ _ z
    refine wpAny_bind (wpAny_seqItems eB rfl ?_)
    show wpAny _ A.in1 (tryCatch (pyNext (.ref I)) _ >>= _) _ _ z
    refine wpAny_bind (wpAny_tryCatch (L.done z _ _ (en ▸ st) fun h1 tk k1 => ?_))
    have eB1 := k1 B _ hw eB
    show wpAny _ A.in1 (updateSeq B (fun _ => #[]) >>= _) _ _ _
    refine wpAny_bind (wpAny_updateSeq eB1 rfl (wpAny_bind (wpAny_letGo (wpAny_pure ?_))))
    exact fin v _ tk (en ▸ pv) fun b o q1 q2 e => (Heap.get?_update_other _ _ (Ne.symm q2)).trans (k1 b o q1 e)
  | succ m ih =>
    intro i z v c hm hi st pv eB fin
    have hlt : i + 1 < n := by omega
    refine codeAny_builtin F.entry_max_loop ?_
    rw [Around.under_plainId F.plain_max_loop]
    show wpAny _ A.in1 (seqItems? (.ref B) >>= _) _ _ z
    refine wpAny_bind (wpAny_seqItems eB rfl ?_)
    show wpAny _ A.in1 (tryCatch (pyNext (.ref I)) _ >>= _) _ _ z
    refine wpAny_bind (wpAny_tryCatch (L.item (i + 1) z _ _ hlt st fun u h1 tk pu st1 k1 => ?_))
    have eB1 := k1 B _ hw eB
    show wpAny _ A.in1 (tryCatch (holding [u, u] (richCompare .Gt u v >>= _)) _ >>= _) _ _ _
    refine wpAny_bind (wpAny_tryCatch (wpAny_holding (wpAny_bind (hc (i + 1) (argBest bt i) u v _ _ _ pu pv ?_))))
    refine wpAny_bind (wpAny_holding (wpAny_truthy_bool (wpAny_bind (wpAny_letGo (wpAny_pure ?_)))))
    cases hb : bt (i + 1) (argBest bt i) with
    | true =>
      simp only [if_true]
      refine wpAny_bind (wpAny_updateSeq eB1 rfl (wpAny_bind (wpAny_letGo ?_)))
      rw [mx_name]
      refine wpAny_pure ⟨plainId_quiet F.plain_max_loop _, ih (i + 1) _ u _ (by omega) hlt (L.frame _ _ _ st1 fun b q o e => ?_) (by simp only [argBest, hb, if_true]; exact pu) (Heap.get?_update_self _ eB1 rfl) fun u2 h2 tk2 p2 k2 => ?_⟩
      · exact (Heap.get?_update_other _ _ (fun x : B = b => hB (x ▸ q))).trans e
      · exact fin u2 h2 tk2 p2 fun b o q1 q2 e => k2 b o q1 q2 ((Heap.get?_update_other _ _ (Ne.symm q2)).trans (k1 b o q1 e))
    | false =>
      simp only [Bool.false_eq_true, if_false]
      refine wpAny_bind (wpAny_letGo ?_)
      rw [mx_name]
      refine wpAny_pure ⟨plainId_quiet F.plain_max_loop _, ih (i + 1) _ v c (by omega) hlt st1 (by simp only [argBest, hb, Bool.false_eq_true, if_false]; exact pv) eB1 fun u2 h2 tk2 p2 k2 => ?_⟩
      exact fin u2 h2 tk2 p2 fun b o q1 q2 e => k2 b o q1 q2 (k1 b o q1 e)
theorem mx_first (L : Walks prog w A.in1 I fp wr n P St) (kw : List (Str × Value)) (bt : Nat → Nat → Bool) (hc : CmpOf prog w A.in1 .Gt P bt) (B : Addr) (hB : B ∉ fp) (hn : 0 < n) {z : Shared} {c : Nat} (st : St 0 z.heap)
    (eB : z.heap.get? B = some { cls := .type "list", dict := none, data := .seq #[] c, slots := #[] })
    (fin : ∀ u h1 tk, P (argBest bt (n - 1)) u → (∀ b o, b ∉ wr → b ≠ B → z.heap.get? b = some o → h1.get? b = some o) → R (.ok (.ret u)) { z with heap := h1, toks := tk }) :
    codeAny (model prog w) A (.builtin "max.loop" ⟨[.ref I, .none, .ref B], kw⟩) R z := by
  have hw : B ∉ wr := fun q => hB (L.sub _ q)
  refine codeAny_builtin F.entry_max_loop ?_
  rw [Around.under_plainId F.plain_max_loop]
  show wpAny _ A.in1 (seqItems? (.ref B) >>= _) _ _ z
  refine wpAny_bind (wpAny_seqItems eB rfl ?_)
  show wpAny _ A.in1 (tryCatch (pyNext (.ref I)) _ >>= _) _ _ z
  refine wpAny_bind (wpAny_tryCatch (L.item 0 z _ _ hn st fun u h1 tk pu st1 k1 => ?_))
  have eB1 := k1 B _ hw eB
  show wpAny _ A.in1 (updateSeq B (fun _ => #[u, u]) >>= _) _ _ _
  refine wpAny_bind (wpAny_updateSeq eB1 rfl ?_)
  rw [mx_name]
  refine wpAny_pure ⟨plainId_quiet F.plain_max_loop _, mx_turns L kw bt hc B hB _ 0 _ u _ rfl hn (L.frame _ _ _ st1 fun b q o e => ?_) pu (Heap.get?_update_self _ eB1 rfl) fun u2 h2 tk2 p2 k2 => ?_⟩
  · exact (Heap.get?_update_other _ _ (fun x : B = b => hB (x ▸ q))).trans e
  · exact fin u2 h2 tk2 p2 fun b o q1 q2 e => k2 b o q1 q2 ((Heap.get?_update_other _ _ (Ne.symm q2)).trans (k1 b o q1 e))

set_option maxHeartbeats 2000000 in
theorem mx_none (L : Walks prog w A.in1 I fp wr 0 P St) (d : Value) (B : Addr) (hB : B ∉ fp) {z : Shared} {c : Nat} (st : St 0 z.heap)
    (eB : z.heap.get? B = some { cls := .type "list", dict := none, data := .seq #[] c, slots := #[] })
    (fin : ∀ h1 tk, (∀ b o, b ∉ wr → z.heap.get? b = some o → h1.get? b = some o) → R (.ok (.ret d)) { z with heap := h1, toks := tk }) :
    codeAny (model prog w) A (.builtin "max.loop" ⟨[.ref I, .none, .ref B], [(Str.ofString "default", d)]⟩) R z := by
  refine codeAny_builtin F.entry_max_loop ?_
  rw [Around.under_plainId F.plain_max_loop]
  show wpAny _ A.in1 (seqItems? (.ref B) >>= _) _ _ z
  refine wpAny_bind (wpAny_seqItems eB rfl ?_)
  show wpAny _ A.in1 (tryCatch (pyNext (.ref I)) _ >>= _) _ _ z
  refine wpAny_bind (wpAny_tryCatch (L.done z _ _ st fun h1 tk k1 => ?_))
  show wpAny _ A.in1 (rule _ >>= _) _ _ _
  exact wpAny_bind (wpAny_rule (wpAny_pure (fin h1 tk k1)))
end
section
variable {prog : Program} {w : World} {A : Around} {E : Value → Shared → Prop} {z : Shared}
theorem mx_args (a d : Value) : argsOk "max" ⟨[a], [(Str.ofString "default", d)]⟩ := by unfold argsOk; kernel_rfl
theorem mx_tree {id : String} {b : Builtin} {us : List Value} {kw : List (Str × Value)} {Q : Value → Shared → Prop} (h1 : builtinKind id = none) (h2 : plainId id = true) (h3 : entryFor table id = some b) (h4 : argsOk id ⟨us, kw⟩)
    (h5 : wpAny (model prog w) A.in1 (b ⟨us, kw⟩) (fun fin y => match fin with
      | .done f => (match (Except.ok f : Result) with | .ok (.ret v) => Q v y | .ok _ => False | .error e => E e y)
      | .again c => c.quiet = true ∧ codeAny (model prog w) A c (fun r y => match r with | .ok (.ret v) => Q v y | .ok _ => False | .error e => E e y) y) E z) :
    wpAny (model prog w) A (call (.builtin id) us kw) Q E z := by
  refine wpAny_call (codeAny_call_builtin h2 h3 ?_)
  simp only [checkBuiltinCall, h1]
  cases e : Manifest.signature? id with
  | none => exact wpAny_pure h5
  | some sig =>
    have h6 : Bind.checkArgs id sig ⟨us, kw⟩ = pure () := by simpa only [argsOk, e] using h4
    simp only [h6]
    exact wpAny_pure h5
theorem mx_call {x d : Value} {Q : Value → Shared → Prop}
    (h : wpAny (model prog w) A.in1 (pyIter x) (fun it y => ∃ I fp wr n P St bt, it = .ref I ∧ Walks prog w A.in1 I fp wr n P St ∧ St 0 y.heap ∧ (∀ b ∈ fp, b < y.heap.objs.size) ∧ CmpOf prog w A.in1 .Gt P bt ∧
      (0 < n → ∀ v h1 tk, P (argBest bt (n - 1)) v → (∀ b o, b ∉ wr → y.heap.get? b = some o → h1.get? b = some o) → Q v { y with heap := h1, toks := tk }) ∧
      (n = 0 → ∀ h1 tk, (∀ b o, b ∉ wr → y.heap.get? b = some o → h1.get? b = some o) → Q d { y with heap := h1, toks := tk })) E z) :
    wpAny (model prog w) A (call (.builtin "max") [x] [(Str.ofString "default", d)]) Q E z := by
  refine mx_tree F.kind_max F.plain_max F.entry_max (mx_args x d) ?_
  show wpAny _ A.in1 (Builtin.Builtins.bindParams "max" ["key", "default"] 0 ⟨[], [(Str.ofString "default", d)]⟩ >>= _) _ _ z
  refine wpAny_bind (wpAny_of_eq (show Builtin.Builtins.bindParams "max" ["key", "default"] 0 ⟨[], [(Str.ofString "default", d)]⟩ = pure [none, some d] from rfl) ?_)
  refine wpAny_bind (wpAny_pure ?_)
  refine wpAny_bind (wpAny_mono h (fun it y q => ?_) fun _ _ e => e)
  obtain ⟨I, fp, wr, n, P, St, bt, rfl, L, st, hfp, hc, q1, q0⟩ := q
  refine wpAny_bind (wpAny_newObj_type ?_)
  have hB : y.heap.objs.size ∉ fp := fun hm => Nat.lt_irrefl _ (hfp _ hm)
  rw [mx_name]
  have st1 := L.frame _ _ (y.heap.push { cls := .type "list", data := .seq #[] }) st fun b _ o e => Heap.get?_push_of_some _ e
  refine wpAny_pure ⟨plainId_quiet F.plain_max_loop _, ?_⟩
  by_cases hn : n = 0
  · subst hn
    exact mx_none L d y.heap.objs.size hB st1 (Heap.get?_push_size _ rfl) fun h1 tk k1 => q0 rfl h1 tk fun b o hb e => k1 b o hb (Heap.get?_push_of_some _ e)
  · exact mx_first L _ bt hc y.heap.objs.size hB (by omega) st1 (Heap.get?_push_size _ rfl) fun v h1 tk pv k1 => q1 (by omega) v h1 tk pv fun b o hb e => k1 b o hb (Nat.ne_of_lt (Heap.lt_size e)) (Heap.get?_push_of_some _ e)
end
theorem mx_ints {prog : Program} {w : World} {A : Around} {E : Value → Shared → Prop} {z : Shared} {l : Addr} {its : List Value} {ns : List Int} {d : Value} {Q : Value → Shared → Prop} (hh : A.handled = none) (hl : z.heap.IsList l its.toArray) (hi : IntsAre its ns)
    (h1 : ∀ h' tk M t', (∀ b o, z.heap.get? b = some o → h'.get? b = some o) → M ∈ ns → (∀ a, a ∈ ns → a ≤ M) → Q (.int M t') { z with heap := h', toks := tk })
    (h0 : ns = [] → ∀ h' tk, (∀ b o, z.heap.get? b = some o → h'.get? b = some o) → Q d { z with heap := h', toks := tk }) : wpAny (model prog w) A (call (.builtin "max") [.ref l] [(Str.ofString "default", d)]) Q E z := by
  obtain ⟨xs, e⟩ := hi.allInts.items
  have hn : numsOf (intItems xs).toList = ns := by rw [← e]; exact hi.numsOf
  rw [nums_intItems] at hn
  subst hn
  rw [e] at hl
  refine mx_call (iter_intList hl fun y ey st hfp hlI => ?_)
  subst ey
  refine ⟨_, _, _, _, _, _, _, rfl, Walks.list (A := A.in1) hh _ l hlI (intItems xs), st, hfp, CmpOf.ints_gt (numAt xs) (fun _ _ => intItems_at), fun hn v h' tk hP hk => ?_, fun hn h' tk hk => ?_⟩
  · have hsz : 0 < xs.size := by simpa [intItems] using hn
    have hv : (intItems xs)[argBest (fun i j => decide (numAt xs i > numAt xs j)) (xs.size - 1)]? = some v := by simpa [intItems] using hP
    obtain ⟨t, rfl⟩ := intItems_at hv
    obtain ⟨g1, g2⟩ := argBest_gt (numAt xs) (xs.size - 1)
    refine h1 h' tk _ t (old_kept hk) ?_ fun a ha => ?_
    · rw [numAt_eq]; exact PySem.getD_mem (by rw [List.length_map, Array.length_toList]; omega)
    · obtain ⟨j, hj, rfl⟩ := mem_getD ha
      rw [List.length_map, Array.length_toList] at hj
      rw [← numAt_eq]; exact g2 j (by omega)
  · refine h0 ?_ h' tk (old_kept hk)
    have hsz : xs.size = 0 := by simpa [intItems] using hn
    rw [List.map_eq_nil_iff]
    exact List.eq_nil_of_length_eq_zero (by rw [Array.length_toList]; exact hsz)
def rMaxD (K : PySem.W.Frag) : List V → List V → Hp → VK → Prop := fun vs zs H Q => ∃ (a : Addr) (ns : List Int) (d : Int), vs = [V.ref a] ∧ zs = [V.int d] ∧ SqL K H a (ns.map V.int) ∧ (∀ m, m ∈ ns → (∀ y, y ∈ ns → y ≤ m) → Q (.int m) H) ∧ (ns = [] → Q (.int d) H)
theorem cr_maxD {X : Cx} (hc : X.calm = true) : CallRK X (.builtin "max") [Str.ofString "default"] (rMaxD X.K) := by
  intro pins s σ H vs zs us ws Q I r rz h
  obtain ⟨a, ns, d, rfl, rfl, hs, q1, q0⟩ := h
  obtain ⟨its, rv, hl, _⟩ := I.list hs
  rw [Vals.ref1 r]
  obtain ⟨w1, rfl, e1⟩ := vals1 rz
  obtain ⟨td, rfl⟩ : ∃ t, w1 = Value.int d t := e1
  exact mx_ints (I.ok.hd hc) hl.isList rv.ints (fun h' tk m t' hk g1 g2 => ⟨.int _, H, I.kept hk, ⟨_, rfl⟩, q1 m g1 g2⟩) fun e h' tk hk => ⟨.int d, H, I.kept hk, ⟨_, rfl⟩, q0 e⟩
def fMaxD (x y : AV) (G : Gp) (Q : AK) : Prop := match x, y with
  | .ref a, .int d => ∃ ns : List Int, G a = some (.lst (ns.map AV.int)) ∧ (∀ m, m ∈ ns → (∀ y, y ∈ ns → y ≤ m) → Q (.int m) G) ∧ (ns = [] → Q (.int d) G)
  | _, _ => False
def aMaxD (ta td : AT) : AT := fun ρ G Q E => ta ρ G (fun x G1 => td ρ G1 (fun y G2 => fMaxD x y G2 Q) E) E
theorem ae_maxD {X : Cx} {W : WW} {e d : Expr} {ta td : AT} {p pos kpos : Pos} (hm : X.mg "max" = none) (hc : X.calm = true) (ha : AE X W e ta) (hd : AE X W d td) (hg : Gl X "max" := by rfl)
    (he : backTo pos (starEach [e] X.env) = (false, eval e X.env) :: backTo pos (starEach [] X.env) := by rfl) (hpl : (backTo pos (starEach [e] X.env)).any (·.1) = false := by rfl)
    (hes : starEach [e] X.env = (false, eval e X.env) :: starEach [] X.env := by rfl) :
    AE X W (.Call (.Name "max" p) [e] [⟨some "default", d, kpos⟩] pos) (aMaxD ta td) :=
  peI (pe_callBK (cr_maxD hc) hg hm (by decide +kernel) (pa_cons ha pa_nil hes) (pk_cons hd pk_nil) (by decide) (by decide) he hpl rfl rfl rfl) fun σ H Q ⟨ρ, G, Q0, E0, hs, hg, h, hq, hE⟩ => by
    refine ⟨ρ, G, _, E0, hs, hg, h, ?_, hE⟩
    intro x G1 v H1 h1 e1 g1 r1
    refine ⟨ρ, G1, _, E0, hs.up e1.toKept, g1, h1, ?_, hE.up e1⟩
    intro y G2 u H2 h2 e2 g2 r2
    unfold fMaxD at h2
    split at h2
    · cases r1; cases r2
      obtain ⟨ns, hG, q1, q0⟩ := h2
      obtain ⟨vs, hv, rl⟩ := g2 _ _ hG
      have := RepL.ints rl
      subst this
      have et := e1.trans e2
      exact ⟨_, ns, _, rfl, rfl, SqL.of hv, fun m g3 g4 => hq _ _ _ _ (q1 m g3 g4) et g2 (.int m), fun e => hq _ _ _ _ (q0 e) et g2 (.int _)⟩
    · exact h2.elim
theorem fMaxD_ref {a : Addr} {d : Int} {G : Gp} {Q : AK} : fMaxD (.ref a) (.int d) G Q = ∃ ns : List Int, G a = some (.lst (ns.map AV.int)) ∧ (∀ m, m ∈ ns → (∀ y, y ∈ ns → y ≤ m) → Q (.int m) G) ∧ (ns = [] → Q (.int d) G) := rfl
end Rw
/-! instances of own classes whose __init__ has whole numbers as defaults -/
namespace Rw
open PySem L2
structure DFun (K : PySem.W.Frag) (x qual : Str) (st : Stmt) (f : Addr) (fd : FuncData) (T : Addr) : Prop where
  ex : ∃ (oc : Value) (od : Option Addr) (kV doc pm : Value) (an : Option Addr) (cdv ct : Value) (osl : Array (Option Value)),
    fd = PySem.W.fnOf x qual (defArgs st) (defBody st) (defScope st) (.ref T) kV doc pm an cdv ct ∧ K.lookup f = some ⟨oc, od, .func fd, osl⟩ ∧ PySem.W.codeIn K cdv qual = true
structure MakeDAt (K : PySem.W.Frag) (mg : Str → Option Value) (x qual : Str) (C : Addr) (st : Stmt) (ps : List Str) (ds : List Int) : Prop where
  ex : mg x = some (.ref C) ∧ ∃ (f : Addr) (fd : FuncData) (T : Addr), DFun K "__init__" qual st f fd T ∧ Mk K C f ∧ ∀ j, j ≤ ds.length → ∃ us, Vals ((ds.drop j).map V.int) us ∧ Binds K fd ps us
structure MakeDOk (P : Program) (w : World) (K : PySem.W.Frag) (mg : Str → Option Value) (base : Heap) (k : Nat) (x : Str) (C : Addr) (asp : ASp) (ds : List Int) : Prop where
  ex : mg x = some (.ref C) ∧ ∃ (f : Addr) (fd : FuncData) (ps : List Str), FnOk P w K mg base (CX P w) k f fd ps (lowF K asp) ∧ Mk K C f ∧ ∀ j, j ≤ ds.length → ∃ us, Vals ((ds.drop j).map V.int) us ∧ Binds K fd ps us
theorem binds_dflt {K : PySem.W.Frag} {x qual : Str} {st : Stmt} {T : Addr} {kV doc pm cdv ct : Value} {an : Option Addr} {o : Obj} {its : Array Value} {n0 : Nat} {ps : List Str} (lT : K.lookup T = some o) (oT : o.data = .seq its n0) (j n : Nat) (hn : n + (its.toList.drop j).length = ps.length)
    (h : ∀ us : List Value, us.length = n → ∃ k, bindArgs (PySem.W.fnOf x qual (defArgs st) (defBody st) (defScope st) (.ref T) kV doc pm an cdv ct) ⟨us, []⟩ = seqItems? (.ref T) >>= k ∧ k (some its) = pure (ps.zip (us ++ its.toList.drop j))) :
    Binds K (PySem.W.fnOf x qual (defArgs st) (defBody st) (defScope st) (.ref T) kV doc pm an cdv ct) ps (its.toList.drop j) := by
  intro s us X hlen
  rw [List.length_append] at hlen
  obtain ⟨k, e1, e2⟩ := h us (by omega)
  refine BindsTo.of_looks fun M => ?_
  rw [e1]
  exact looks_items X lT oT (.of_pure e2)
section
variable {P : Program} {w : World} {K : PySem.W.Frag} {mg : Str → Option Value} {base : Heap} {C : Addr}
theorem dfn_okA {x qual : Str} {st : Stmt} {f T : Addr} {fd : FuncData} {N ps : List Str} {k : Nat} {asp : ASp} (F : DFun K x qual st f fd T) (S : FnScope N ps (defScope st)) (len : ∀ xs G Q E, asp xs G Q E → xs.length = ps.length)
    (hbody : ∀ (f : Addr) (cdv : Value) (A : Around) (outer : List Env) (s : Shared) (H : Hp) (E : XK) (W : WW), Tk (bX P w K mg base N qual st f cdv A outer s H E) W →
      PassesOwn (model P w) (bX P w K mg base N qual st f cdv A outer s H E).A (bX P w K mg base N qual st f cdv A outer s H E).env (bX P w K mg base N qual st f cdv A outer s H E).xe →
      Room k (bX P w K mg base N qual st f cdv A outer s H E).A → ∀ xs G Q0 E0, asp xs G Q0 E0 →
      ∃ t, ASs (bX P w K mg base N qual st f cdv A outer s H E) W (defBody st) t ∧ t { nx := fun _ G' => dropQ Q0 .non G', rt := dropQ Q0, ex := fun c _ G' => dropE E0 c G' } (startA N xs) G) :
    FnOk P w K mg base (CX P w) (k + 1) f fd ps (lowF K asp) := by
  obtain ⟨oc, od, kV, doc, pm, an, cdv, ct, osl, rfl, lk, hcd⟩ := F.ex
  refine fn_of lk hcd S (fun vs H Q E ⟨xs, G, Q0, E0, r, hg, h, _⟩ => by rw [r.length]; exact len _ _ _ _ h) fun A outer s H vs Q E hr ⟨xs, G, Q0, E0, r, hg, h, hq, he⟩ => ?_
  have tk : Tk (bX P w K mg base N qual st f cdv A outer s H E) (fun c _ H' => E c none H') :=
    (takes_of rfl rfl rfl rfl : Takes (bX P w K mg base N qual st f cdv A outer s H E) (fun cls d _ H => E cls d H)).imp fun c d σ H' ⟨z, h⟩ => by subst z; exact h
  obtain ⟨t, ht, q⟩ := hbody f cdv A outer s H E (fun c _ H' => E c none H') tk (passes_of rfl) hr xs G Q0 E0 h
  have hl : vs.length ≤ N.length := by
    have h1 := len _ _ _ _ h
    have h2 := congrArg List.length S.pre
    rw [List.length_take] at h2
    rw [r.length, h1]
    omega
  refine ⟨_, ht, startA N xs, G, _, startA_sim r hl, hg, q, ⟨?_, hq.drop, ?_, ?_, fun c ρ' G' σ' H' h e g _ => he.drop c G' H' h e g⟩⟩
  · intro ρ' G' σ' H' h1 e1 g1 s1
    exact hq.drop _ _ _ _ h1 e1 g1 .non
  · intro _ _ _ _ z; exact z.elim
  · intro _ _ _ _ z; exact z.elim
theorem MakeDAt.ok5 {x qual : Str} {st : Stmt} {N ps : List Str} {ds : List Int} {k : Nat} {p : P5} (T : MakeDAt K mg x qual C st ps ds) (S : FnScope N ps (defScope st)) (hl : ps.length = 5)
    (hbody : ∀ (f : Addr) (cdv : Value) (A : Around) (outer : List Env) (s : Shared) (H : Hp) (E : XK) (W : WW), Tk (bX P w K mg base N qual st f cdv A outer s H E) W →
      PassesOwn (model P w) (bX P w K mg base N qual st f cdv A outer s H E).A (bX P w K mg base N qual st f cdv A outer s H E).env (bX P w K mg base N qual st f cdv A outer s H E).xe →
      Room k (bX P w K mg base N qual st f cdv A outer s H E).A → ∀ x1 x2 x3 x4 x5 G Q0 E0, p x1 x2 x3 x4 x5 G Q0 E0 →
      ∃ t, ASs (bX P w K mg base N qual st f cdv A outer s H E) W (defBody st) t ∧ t { nx := fun _ G' => dropQ Q0 .non G', rt := dropQ Q0, ex := fun c _ G' => dropE E0 c G' } (startA N [x1, x2, x3, x4, x5]) G) :
    MakeDOk P w K mg base (k + 1) x C (sp5 p) ds := by
  obtain ⟨hc, f, fd, T', F, hm, hb⟩ := T.ex
  refine ⟨hc, f, fd, ps, dfn_okA F S (fun xs G Q E h => ?_) (fun f cdv A outer s H E W tk pw hr xs G Q0 E0 h => ?_), hm, hb⟩
  · unfold sp5 at h; split at h
    · exact hl.symm
    · exact h.elim
  · unfold sp5 at h; split at h
    · exact hbody f cdv A outer s H E W tk pw hr _ _ _ _ _ G Q0 E0 h
    · exact h.elim
end
def aMakeD (C : Addr) (asp : ASp) (ds : List Int) (t : ATA) : AT := fun ρ G Q E => t ρ G (fun xs G1 => ∀ p G', New G1 p (.ins C []) G' → asp (.ref p :: (xs ++ ds.map AV.int)) G' (fun v G2 => v = .non ∧ Q (.ref p) G2) E) E
def tMakeD (C : Addr) (sp : Sp) (dvs : List V) (E : L2.St → XK) (t : TA) : TE := fun σ H Q => t σ H fun vs H1 => ∀ x dx, H1 x = none → H1 dx = none → dx ≠ x → sp (.ref x :: (vs ++ dvs)) (upd (upd H1 dx (.own x)) x (.ins C dx [])) (fun v H2 => v = .non ∧ Q (.ref x) H2) (E σ)
section
variable {X : Cx} {W : WW} {o e : Expr} {es : List Expr} {f m x : Str} {p pos apos cpos : Pos} {to : AT} {t : ATA} {tt : TA} {tn : TE} {k : Nat} {C g : Addr} {fd : FuncData} {ps : List Str} {sp : Sp} {E : L2.St → XK} {asp : ASp}
theorem run_makeD {pins : List (Addr × Obj)} {σ : L2.St} {H : Hp} {s : Shared} {Q : VK} {us ds : List Value} {vs dvs : List V} {XE : XK} (M : Mk X.K C g) (F : FnOk X.prog X.w X.K X.mg X.base (CX X.prog X.w) k g fd ps sp) (hr : Room (k + 1) X.A) (hb : Binds X.K fd ps ds) (hd : Vals dvs ds)
    (hx : PassesAt (CX X.prog X.w) X σ XE) (I : Inv X pins σ H s) (r : Vals vs us)
    (h : ∀ x dx, H x = none → H dx = none → dx ≠ x → sp (.ref x :: (vs ++ dvs)) (upd (upd H dx (.own x)) x (.ins C dx [])) (fun v H2 => v = .non ∧ Q (.ref x) H2) XE) :
    wpAny (model X.prog X.w) X.A (call (.ref C) us) (EP X pins σ Q) X.xe s := by
  have hq := h (s.heap.objs.size + 1) s.heap.objs.size (I.hok.fresh (Nat.le_succ _)) (I.hok.fresh (Nat.le_refl _)) (Nat.ne_of_lt (Nat.lt_succ_self _))
  have J := Inv.made (C := C) I
  have r2 : Vals (V.ref (s.heap.objs.size + 1) :: (vs ++ dvs)) (Value.ref (s.heap.objs.size + 1) :: (us ++ ds)) := .cons rfl (r.append hd)
  have hl : (Value.ref (s.heap.objs.size + 1) :: (us ++ ds)).length = ps.length := by
    have e := r2.length
    rw [F.len _ _ _ _ hq] at e
    exact e.symm
  have b := hb _ (Value.ref (s.heap.objs.size + 1) :: us) J.kIn hl
  refine wpAny_call (make_map (f := g) I.kIn M.makes M.init (beq_iff_eq.mp M.fn) (codeAny_mono (F.run _ X.stack _ _ ⟨Value.ref (s.heap.objs.size + 1) :: us, []⟩ (Value.ref (s.heap.objs.size + 1) :: (us ++ ds)) _ _ XE (hr.make C us [])
    (J.env0.make C us []) b r2 hq) fun r s' hq' => ?_))
  cases r with
  | error e => exact hx pins _ _ e s' J hq'
  | ok fl =>
    cases fl with
    | ret u =>
      obtain ⟨v, H', J3, rv, ev, q3⟩ := J.after hq'
      subst ev
      exact ⟨rv, ⟨V.ref (s.heap.objs.size + 1), H', J3, rfl, q3⟩⟩
    | next => exact False.elim hq'
    | brk => exact False.elim hq'
    | cont => exact False.elim hq'
theorem pe_makeD {ds : List Value} {dvs : List V} (M : Mk X.K C g) (F : FnOk X.prog X.w X.K X.mg X.base (CX X.prog X.w) k g fd ps sp) (hr : Room (k + 1) X.A) (hg : Gl X x) (hm : X.mg x = some (.ref C)) (hb : Binds X.K fd ps ds) (hd : Vals dvs ds) (hx : ∀ σ, PassesAt (CX X.prog X.w) X σ (E σ))
    (ha : PA X (e :: es) tt) (hdb : (x == ("__debug__" : Str)) = false) (he : starEach (e :: es) X.env = (false, eval e X.env) :: starEach es X.env) (hpl : (backTo pos (starEach es X.env)).any (·.1) = false) :
    PE X (.Call (.Name x p) (e :: es) [] pos) (tMakeD C sp dvs E tt) := by
  refine ⟨fun pins s σ H Q I h => ?_⟩
  refine wpAny_Call_Name_kw (ld_glob I hg hm ?_ hdb)
  refine PySem.W.callWith_K (h₀ := X.base) I.ok.mod.kin M.kp (thn (ha.run pos pins s σ H _ I h) fun us s1 ⟨vs, H1, I1, r, q⟩ => ⟨I1.kIn, ?_⟩) he hpl
  exact run_makeD M F hr hb hd (hx σ) I1 r q
theorem RepL.intsD {K : PySem.W.Frag} {H : Hp} : ∀ l : List Int, RepL K H (l.map AV.int) (l.map V.int)
  | [] => .nil
  | i :: l => .cons (.int i) (RepL.intsD l)
theorem RepL.app {K : PySem.W.Frag} {H : Hp} {xs ys : List AV} {vs us : List V} (h : RepL K H xs vs) (k : RepL K H ys us) : RepL K H (xs ++ ys) (vs ++ us) := by
  induction xs generalizing vs with
  | nil => cases h; exact k
  | cons x xs ih => cases h with | cons h1 h2 => exact .cons h1 (ih h2)
theorem ae_makeD {ds : List Int} (j : Nat) (D : MakeDOk X.prog X.w X.K X.mg X.base k x C asp ds) (hr : Room (k + 1) X.A) (tk : Tk X W) (ha : AArgs X W (e :: es) t) (hj : j ≤ ds.length := by decide) (hg : Gl X x := by rfl)
    (hdb : (x == ("__debug__" : Str)) = false := by decide) (he : starEach (e :: es) X.env = (false, eval e X.env) :: starEach es X.env := by rfl) (hpl : (backTo pos (starEach es X.env)).any (·.1) = false := by rfl) :
    AE X W (.Call (.Name x p) (e :: es) [] pos) (aMakeD C asp (ds.drop j) t) := by
  obtain ⟨hc, g, fd, ps, F, hm, hb⟩ := D.ex
  obtain ⟨us, hv, hb⟩ := hb j hj
  refine peI (pe_makeD hm F hr hg hc hb hv (fun σ => passAt tk σ) ha hdb he hpl) fun σ H Q h => ?_
  obtain ⟨ρ, G, Q0, E0, hs, hg, h, hq, he⟩ := h
  refine ⟨ρ, G, _, E0, hs, hg, h, ?_, he⟩
  intro xs G1 vs H1 h1 e1 g1 r1 y dx hy hdx hne
  obtain ⟨e2, g2⟩ := ext_new (o := .own y) g1 hdx
  have hy2 : upd H1 dx (.own y) y = none := by rw [upd_ne (Ne.symm hne)]; exact hy
  obtain ⟨e3, g3⟩ := ext_alloc (o := .ins C dx []) (g := .ins C []) g2 hy2 fun k => ⟨dx, [], upd_same, .nil⟩
  have eq := e2.trans e3
  refine ⟨_, _, _, E0, .cons (.ref y) ((r1.up eq.toKept).app (RepL.intsD _)), g3, h1 y _ ⟨rfl, g2.none hy2⟩, ?_, fun c G' H' hc e4 g4 => ⟨rfl, he c G' H' hc ((e1.trans eq).trans e4) g4⟩⟩
  intro v G2 v' H2 ⟨hv, h2⟩ e4 g4 r4
  subst hv
  cases r4
  exact ⟨rfl, hq _ _ _ _ h2 ((e1.trans eq).trans e4) g4 (.ref y)⟩
theorem ae_makeDe {ds : List Int} (j : Nat) (ds' : List Int) (D : MakeDOk X.prog X.w X.K X.mg X.base k x C asp ds) (hr : Room (k + 1) X.A) (tk : Tk X W) (ha : AArgs X W (e :: es) t) (hd : ds.drop j = ds' := by rfl) (hj : j ≤ ds.length := by decide) (hg : Gl X x := by rfl)
    (hdb : (x == ("__debug__" : Str)) = false := by decide) (he : starEach (e :: es) X.env = (false, eval e X.env) :: starEach es X.env := by rfl) (hpl : (backTo pos (starEach es X.env)).any (·.1) = false := by rfl) :
    AE X W (.Call (.Name x p) (e :: es) [] pos) (aMakeD C asp ds' t) := by
  subst hd
  exact ae_makeD j D hr tk ha hj hg hdb he hpl
end
/-! a, b, .. = a list -/
def agLst (t : ATGs) (n : Nat) : ATG := fun x ρ G Q E => onRef x fun a => ∃ xs, G a = some (.lst xs) ∧ xs.length = n ∧ t xs ρ G Q E
section
variable {X : Cx} {W : WW} {pos : Pos}
theorem ag_lst {es : List Expr} {k : Nat} {t : ATGs} {n : Nat} (hc : X.calm = true) (h : AGs X W es t)
    (hn : (assignEach es X.env).length = n := by rfl) (hst : (assignEach es X.env).findIdx? (·.1) = none := by rfl) : AG X W (.Tuple es k pos) (agLst t n) := ⟨fun pins s σ H v u Q I r ⟨x, ρ, G, Q0, E0, rx, hS, hg, h2, hq, he⟩ => by
  cases rx with
  | ref a =>
    obtain ⟨xs, e, hln, h2⟩ := h2
    obtain ⟨vs, hv, rl⟩ := hg _ _ e
    exact (pg_lst hc h hn hst).run pins s σ H _ u Q I r ⟨a, vs, rfl, SqL.of hv, by rw [rl.length]; exact hln, _, ρ, G, Q0, E0, rl, hS, hg, h2, hq, he⟩
  | _ => exact h2.elim⟩
end
end Rw
/-! displays of names and constants, read at once -/
namespace Rw
open PySem L2
def aPv (f : ASt → Option AV) : AT := fun ρ G Q _ => ∃ x, f ρ = some x ∧ Q x G
def aPl (f : ASt → Option (List AV)) : ATA := fun ρ G Q _ => ∃ xs, f ρ = some xs ∧ Q xs G
def pvV (i : Nat) : ASt → Option AV := fun ρ => match ρ[i]? with | some (some x) => some x | _ => none
def pvC (x : AV) : ASt → Option AV := fun _ => some x
def plN : ASt → Option (List AV) := fun _ => some []
def plC (f : ASt → Option AV) (g : ASt → Option (List AV)) : ASt → Option (List AV) := fun ρ => match f ρ with
  | some x => match g ρ with
    | some xs => some (x :: xs)
    | none => none
  | none => none
def pvT (f : ASt → Option (List AV)) : ASt → Option AV := fun ρ => match f ρ with
  | some xs => if xs.length ≤ 10 then some (.tup xs) else none
  | none => none
section
variable {X : Cx} {W : WW} {e : Expr} {es : List Expr} {pos : PySem.Pos}
theorem ae_weak {t t' : AT} (h : AE X W e t) (k : ∀ ρ G Q E, t' ρ G Q E → t ρ G Q E) : AE X W e t' := peI h fun σ H Q ⟨ρ, G, Q0, E0, hs, hg, h, r⟩ => ⟨ρ, G, Q0, E0, hs, hg, k _ _ _ _ h, r⟩
theorem aa_weak {t t' : ATA} (h : AArgs X W es t) (k : ∀ ρ G Q E, t' ρ G Q E → t ρ G Q E) : AArgs X W es t' := paI h fun σ H Q ⟨ρ, G, Q0, E0, hs, hg, h, r⟩ => ⟨ρ, G, Q0, E0, hs, hg, k _ _ _ _ h, r⟩
theorem pv_var {i : Nat} (h : AE X W e (aVar i)) : AE X W e (aPv (pvV i)) := ae_weak h fun ρ G Q E ⟨x, h, q⟩ => by
  unfold pvV at h
  unfold aVar
  generalize ρ[i]? = o at h ⊢
  match o, h with
  | some (some y), h => cases h; exact q
  | some none, h => cases h
  | none, h => cases h
theorem pv_c {x : AV} (h : AE X W e (aC x)) : AE X W e (aPv (pvC x)) := ae_weak h fun ρ G Q E ⟨y, h, q⟩ => by cases h; exact q
theorem pl_n : AArgs X W [] (aPl plN) := aa_weak aa_nil fun ρ G Q E ⟨y, h, q⟩ => by cases h; exact q
theorem pl_c {f : ASt → Option AV} {g : ASt → Option (List AV)} (ha : AE X W e (aPv f)) (hr : AArgs X W es (aPl g)) (hs : starEach (e :: es) X.env = (false, eval e X.env) :: starEach es X.env := by rfl) : AArgs X W (e :: es) (aPl (plC f g)) := aa_weak (aa_cons ha hr hs) fun ρ G Q E ⟨y, h, q⟩ => by
  unfold plC at h
  split at h
  · rename_i x hx
    split at h
    · rename_i xs hxs
      cases h
      exact ⟨x, hx, xs, hxs, q⟩
    · cases h
  · cases h
theorem pv_tup {x1} {f : ASt → Option (List AV)} (h : AArgs X W es (aPl f)) : AE X W (.Tuple es x1 pos) (aPv (pvT f)) := ae_weak (ae_tup h) fun ρ G Q E ⟨y, h, q⟩ => by
  unfold pvT at h
  split at h
  · rename_i xs hxs
    split at h
    · rename_i hl
      cases h
      exact ⟨xs, hxs, Nat.le_trans hl (by decide +kernel), q⟩
    · cases h
  · cases h
end
end Rw
/-! signs to draw terms of -/
namespace Rw
open PySem L2
structure SgT (mx : Nat) (S : List Sg) : Prop where
  ar : ∀ s ∈ S, s.ar ≤ mx
  c0 : 2 ≤ (S.filter fun s => decide (s.ar = 0)).length
  l1 : 1 ≤ S.length
  len : S.length ≤ 6
theorem SgOk.t {mx : Nat} {S : List Sg} (h : SgOk mx S) : SgT mx S := ⟨h.ar, h.c0, Nat.le_trans h.c1 (List.length_filter_le _ _), h.len⟩
instance {mx : Nat} {S : List Sg} : Coe (SgOk mx S) (SgT mx S) := ⟨SgOk.t⟩
theorem SgOk.lone {mx : Nat} {S : List Sg} (h : SgOk mx S) : SgT 1 (S.filter fun s => decide (s.ar < 2)) := by
  have e : ((S.filter fun s => decide (s.ar < 2)).filter fun s => decide (s.ar = 0)) = S.filter fun s => decide (s.ar = 0) := by
    rw [List.filter_filter]
    refine List.filter_congr fun s _ => ?_
    by_cases z : s.ar = 0
    · rw [z]; rfl
    · rw [decide_eq_false z]; rfl
  refine ⟨fun s hs => ?_, by rw [e]; exact h.c0, ?_, Nat.le_trans (List.length_filter_le _ _) h.len⟩
  · have := of_decide_eq_true (List.mem_filter.mp hs).2; omega
  · have h0 := h.c0
    rw [← e] at h0
    have := List.length_filter_le (fun s : Sg => decide (s.ar = 0)) (S.filter fun s => decide (s.ar < 2))
    omega
theorem TOk.signs {S S' : List Sg} {B : Int → Prop} {t : Tm} (hs : ∀ s ∈ S, s ∈ S') (h : TOk S B t) : TOk S' B t := by
  induction h with
  | bl hb => exact .bl hb
  | fn h1 h2 _ ih => exact .fn (hs _ h1) h2 ih
end Rw
/-! sorted(xs) of whole numbers -/
namespace Rw
open PySem L2
def fSorted : AFN := fun xs G Q => match xs with
  | [.ref a] => ∃ ns : List Int, G a = some (.lst (ns.map AV.int)) ∧ ∀ (ns' : List Int) p G', ns'.Perm ns → ns'.Pairwise (· ≤ ·) → New G p (.lst (ns'.map AV.int)) G' → Q (.ref p) G'
  | _ => False
theorem fSorted_ref {a : Addr} {G : Gp} {Q : AK} : fSorted [.ref a] G Q = ∃ ns : List Int, G a = some (.lst (ns.map AV.int)) ∧ ∀ (ns' : List Int) p G', ns'.Perm ns → ns'.Pairwise (· ≤ ·) → New G p (.lst (ns'.map AV.int)) G' → Q (.ref p) G' := rfl
theorem repL_ints {K : PySem.W.Frag} {H : Hp} : ∀ ns : List Int, RepL K H (ns.map AV.int) (ns.map V.int)
  | [] => .nil
  | n :: ns => .cons (.int n) (repL_ints ns)
theorem lf_sorted {K : PySem.W.Frag} : LiftN K (rSortedI K) fSorted := by
  intro xs vs G H Q0 Q r hg h hq
  unfold fSorted at h
  split at h
  · obtain ⟨v, rfl, rx⟩ := r.one
    cases rx
    obtain ⟨ns, e, h⟩ := h
    obtain ⟨ws, hv, l1⟩ := hg _ _ e
    have e1 : ws = ns.map V.int := by
      clear hv e h
      induction ns generalizing ws with
      | nil => cases l1; rfl
      | cons n ns ih =>
        cases l1 with
        | cons r1 r2 =>
          cases r1
          rw [List.map_cons, ih _ r2]
    subst e1
    exact ⟨_, ns, rfl, SqL.of hv, fun ns' p h1 h2 hp => new_lst hg (repL_ints ns') (fun p G' n => h ns' p G' h1 h2 n) hq hp⟩
  · exact h.elim
theorem ae_sorted {X : Cx} {W : WW} {t : ATA} {e : Expr} {es : List Expr} {p pos : PySem.Pos} (hm : X.mg "sorted" = none) (ha : AArgs X W (e :: es) t) (hg : Gl X "sorted" := by rfl) (he : starEach (e :: es) X.env = (false, eval e X.env) :: starEach es X.env := by rfl) (hpl : (backTo pos (starEach es X.env)).any (·.1) = false := by rfl) : AE X W (.Call (.Name "sorted" p) (e :: es) [] pos) (aCallB fSorted t) :=
  ae_callB cr_sortedI lf_sorted hm (by decide +kernel) ha hg (by decide) (by decide) he hpl
end Rw
namespace Rw
open PySem L2
/-! facts of the order: strict, total on ground terms, kept by filling and by parts -/
theorem Tm.cov_iff {s t : Tm} : Tm.cov s t = true ↔ ∀ n, t.flat.count n ≤ s.flat.count n := by
  unfold Tm.cov
  rw [List.all_eq_true]
  constructor
  · intro h n
    by_cases hn : n ∈ t.flat
    · exact of_decide_eq_true (h n hn)
    · rw [List.count_eq_zero_of_not_mem hn]; exact Nat.zero_le _
  · intro h n _
    exact decide_eq_true (h n)
theorem Tm.cov_trans {s t u : Tm} (h : Tm.cov s t = true) (k : Tm.cov t u = true) : Tm.cov s u = true :=
  Tm.cov_iff.mpr fun n => Nat.le_trans (Tm.cov_iff.mp k n) (Tm.cov_iff.mp h n)
/-- the order in words -/
theorem Tm.gt_iff {S : List Sg} {s t : Tm} : Tm.gt S s t = true ↔ s ≠ t ∧ Tm.cov s t = true ∧ (t.wt S < s.wt S ∨ s.wt S = t.wt S ∧ Tm.gtI S s t = true) := by
  by_cases h : s = t
  · rw [Tm.gt_no (.inl h)]; constructor
    · intro z; cases z
    · rintro ⟨z, _⟩; exact absurd h z
  · cases hc : Tm.cov s t with
    | false => rw [Tm.gt_no (.inr hc)]; constructor
               · intro z; cases z
               · rintro ⟨_, z, _⟩; cases z
    | true =>
      by_cases hw : s.wt S = t.wt S
      · rw [Tm.gt_in h hc hw]
        constructor
        · intro z; exact ⟨h, rfl, .inr ⟨hw, z⟩⟩
        · rintro ⟨_, _, z | z⟩
          · omega
          · exact z.2
      · rw [Tm.gt_wt h hc hw, decide_eq_true_iff]
        constructor
        · intro z; exact ⟨h, rfl, .inl z⟩
        · rintro ⟨_, _, z | z⟩
          · exact z
          · exact absurd z.1 hw
theorem Tm.gtI_iff {S : List Sg} {s t : Tm} : Tm.gtI S s t = true ↔ ∃ f ss g ts, s = .fn f ss ∧ t = .fn g ts ∧ (f ≠ g ∧ rkOf S g < rkOf S f ∨ f = g ∧ Tm.gtL S ss ts = true) := by
  cases s with
  | bl m => constructor
            · intro z; cases t <;> cases z
            · rintro ⟨_, _, _, _, z, _⟩; cases z
  | fn f ss =>
    cases t with
    | bl n => constructor
              · intro z; cases z
              · rintro ⟨_, _, _, _, _, z, _⟩; cases z
    | fn g ts =>
      rw [Tm.gtI]
      by_cases h : f = g
      · subst h
        rw [if_neg (fun z => z rfl)]
        constructor
        · intro z; exact ⟨f, ss, f, ts, rfl, rfl, .inr ⟨rfl, z⟩⟩
        · rintro ⟨f', ss', g', ts', e1, e2, ⟨z, _⟩ | ⟨_, z⟩⟩
          · cases e1; cases e2; exact absurd rfl z
          · cases e1; cases e2; exact z
      · rw [if_pos h, decide_eq_true_iff]
        constructor
        · intro z; exact ⟨f, ss, g, ts, rfl, rfl, .inl ⟨h, z⟩⟩
        · rintro ⟨f', ss', g', ts', e1, e2, ⟨_, z⟩ | ⟨z, _⟩⟩
          · cases e1; cases e2; exact z
          · cases e1; cases e2; exact absurd z h
theorem Tm.gt_irrefl {S : List Sg} (s : Tm) : Tm.gt S s s = false := Tm.gt_no (.inl rfl)
theorem gtL_asymm {S : List Sg} {ss ts : List Tm} (ih : ∀ s, s ∈ ss → ∀ t, Tm.gt S s t = true → Tm.gt S t s = true → False) (h : Tm.gtL S ss ts = true) (k : Tm.gtL S ts ss = true) : False := by
  induction ss generalizing ts with
  | nil => rw [Tm.gtL] at h; cases h
  | cons s ss ihs =>
    cases ts with
    | nil => rw [Tm.gtL] at h; cases h
    | cons t ts =>
      rw [Tm.gtL] at h k
      by_cases e : s = t
      · subst e
        rw [if_pos rfl] at h k
        exact ihs (fun x hx => ih x (List.mem_cons_of_mem _ hx)) h k
      · rw [if_neg e] at h
        rw [if_neg (fun z => e z.symm)] at k
        exact ih s List.mem_cons_self t h k
theorem Tm.gt_asymm {S : List Sg} : ∀ (s t : Tm), Tm.gt S s t = true → Tm.gt S t s = true → False := by
  intro s
  induction s using Tm.ind with
  | hb n =>
    intro t h k
    obtain ⟨_, _, h | ⟨_, h⟩⟩ := Tm.gt_iff.mp h
    · obtain ⟨_, _, k | ⟨k, _⟩⟩ := Tm.gt_iff.mp k <;> omega
    · obtain ⟨_, _, _, _, e, _⟩ := Tm.gtI_iff.mp h; cases e
  | hf f ss ih =>
    intro t h k
    obtain ⟨_, _, h | ⟨w, h⟩⟩ := Tm.gt_iff.mp h
    · obtain ⟨_, _, k | ⟨k, _⟩⟩ := Tm.gt_iff.mp k <;> omega
    · obtain ⟨_, _, k | ⟨_, k⟩⟩ := Tm.gt_iff.mp k
      · omega
      · obtain ⟨_, _, g, ts, e, rfl, h⟩ := Tm.gtI_iff.mp h
        cases e
        obtain ⟨_, _, _, _, e1, e2, k⟩ := Tm.gtI_iff.mp k
        cases e1; cases e2
        rcases h with ⟨h1, h2⟩ | ⟨h1, h2⟩
        · rcases k with ⟨k1, k2⟩ | ⟨k1, k2⟩
          · omega
          · exact h1 k1.symm
        · rcases k with ⟨k1, k2⟩ | ⟨k1, k2⟩
          · exact k1 h1.symm
          · exact gtL_asymm ih h2 k2
theorem gtL_trans {S : List Sg} {ss ts us : List Tm} (ih : ∀ s, s ∈ ss → ∀ t u, Tm.gt S s t = true → Tm.gt S t u = true → Tm.gt S s u = true) (h : Tm.gtL S ss ts = true) (k : Tm.gtL S ts us = true) : Tm.gtL S ss us = true := by
  induction ss generalizing ts us with
  | nil => rw [Tm.gtL] at h; cases h
  | cons s ss ihs =>
    cases ts with
    | nil => rw [Tm.gtL] at h; cases h
    | cons t ts =>
      cases us with
      | nil => rw [Tm.gtL] at k; cases k
      | cons u us =>
        rw [Tm.gtL] at h k ⊢
        by_cases e : s = t
        · subst e
          rw [if_pos rfl] at h
          by_cases e2 : s = u
          · subst e2
            rw [if_pos rfl] at k
            rw [if_pos rfl]
            exact ihs (fun x hx => ih x (List.mem_cons_of_mem _ hx)) h k
          · rw [if_neg e2] at k ⊢
            exact k
        · rw [if_neg e] at h
          by_cases e2 : t = u
          · subst e2
            rw [if_neg e]
            exact h
          · rw [if_neg e2] at k
            have e3 : s ≠ u := fun z => by subst z; exact Tm.gt_asymm _ _ h k
            rw [if_neg e3]
            exact ih s List.mem_cons_self t u h k
theorem Tm.gt_trans {S : List Sg} : ∀ (s t u : Tm), Tm.gt S s t = true → Tm.gt S t u = true → Tm.gt S s u = true := by
  intro s
  induction s using Tm.ind with
  | hb n =>
    intro t u h k
    obtain ⟨h1, hc, h | ⟨_, h⟩⟩ := Tm.gt_iff.mp h
    · obtain ⟨k1, kc, k⟩ := Tm.gt_iff.mp k
      have hne : Tm.bl n ≠ u := fun z => by subst z; rcases k with k | ⟨k, _⟩ <;> omega
      exact Tm.gt_iff.mpr ⟨hne, Tm.cov_trans hc kc, .inl (by rcases k with k | ⟨k, _⟩ <;> omega)⟩
    · obtain ⟨_, _, _, _, e, _⟩ := Tm.gtI_iff.mp h; cases e
  | hf f ss ih =>
    intro t u h k
    have hne : Tm.fn f ss ≠ u := fun z => by subst z; exact Tm.gt_asymm _ _ h k
    obtain ⟨h1, hc, h⟩ := Tm.gt_iff.mp h
    obtain ⟨k1, kc, k⟩ := Tm.gt_iff.mp k
    refine Tm.gt_iff.mpr ⟨hne, Tm.cov_trans hc kc, ?_⟩
    rcases h with h | ⟨hw, h⟩
    · exact .inl (by rcases k with k | ⟨k, _⟩ <;> omega)
    · rcases k with k | ⟨kw, k⟩
      · exact .inl (by omega)
      · refine .inr ⟨by omega, ?_⟩
        obtain ⟨_, _, g, ts, e, rfl, h⟩ := Tm.gtI_iff.mp h
        cases e
        obtain ⟨_, _, v, us, e, rfl, k⟩ := Tm.gtI_iff.mp k
        cases e
        refine Tm.gtI_iff.mpr ⟨_, _, _, _, rfl, rfl, ?_⟩
        rcases h with ⟨h1, h2⟩ | ⟨rfl, h2⟩
        · rcases k with ⟨k1, k2⟩ | ⟨rfl, k2⟩
          · exact .inl ⟨fun z => by subst z; omega, by omega⟩
          · exact .inl ⟨h1, h2⟩
        · rcases k with ⟨k1, k2⟩ | ⟨rfl, k2⟩
          · exact .inl ⟨k1, k2⟩
          · exact .inr ⟨rfl, gtL_trans ih h2 k2⟩
/-! ground terms -/
theorem rkOf_inj {S : List Sg} {f g : Str} (hf : f ∈ S.map Sg.name) (hg : g ∈ S.map Sg.name) (h : rkOf S f = rkOf S g) : f = g := by
  induction S with
  | nil => cases hf
  | cons s S ih =>
    rw [rkOf, rkOf] at h
    by_cases e1 : s.name = f
    · by_cases e2 : s.name = g
      · exact e1.symm.trans e2
      · rw [if_pos e1, if_neg e2] at h; omega
    · by_cases e2 : s.name = g
      · rw [if_neg e1, if_pos e2] at h; omega
      · rw [if_neg e1, if_neg e2] at h
        rcases List.mem_cons.mp hf with z | hf
        · exact absurd z.symm e1
        rcases List.mem_cons.mp hg with z | hg
        · exact absurd z.symm e2
        exact ih hf hg (by omega)
abbrev noB : Int → Prop := fun _ => False
theorem TOk.noflat {S : List Sg} {t : Tm} (h : TOk S noB t) : t.flat = [] := by
  induction h with
  | bl h => exact h.elim
  | @fn s ts hs hl _ ih =>
    rw [Tm.flat]
    clear hl
    induction ts with
    | nil => rfl
    | cons t ts iht =>
      rw [Tm.flatL, ih t List.mem_cons_self, iht (fun u hu => by rename_i a; exact a u (List.mem_cons_of_mem _ hu)) (fun u hu => ih u (List.mem_cons_of_mem _ hu))]
      rfl
theorem gtL_total {S : List Sg} {ss ts : List Tm} (hl : ss.length = ts.length) (ih : ∀ s, s ∈ ss → ∀ t, t ∈ ts → s ≠ t → Tm.gt S s t = true ∨ Tm.gt S t s = true) (hne : ss ≠ ts) : Tm.gtL S ss ts = true ∨ Tm.gtL S ts ss = true := by
  induction ss generalizing ts with
  | nil =>
    cases ts with
    | nil => exact absurd rfl hne
    | cons t ts => simp at hl
  | cons s ss ihs =>
    cases ts with
    | nil => simp at hl
    | cons t ts =>
      rw [Tm.gtL, Tm.gtL]
      by_cases e : s = t
      · subst e
        rw [if_pos rfl, if_pos rfl]
        exact ihs (by simpa using hl) (fun a ha b hb => ih a (List.mem_cons_of_mem _ ha) b (List.mem_cons_of_mem _ hb)) (fun z => hne (by rw [z]))
      · rw [if_neg e, if_neg (fun z => e z.symm)]
        exact ih s List.mem_cons_self t List.mem_cons_self e
theorem TOk.total {S : List Sg} (hn : (S.map Sg.name).Nodup) {s : Tm} (hs : TOk S noB s) : ∀ t, TOk S noB t → s ≠ t → Tm.gt S s t = true ∨ Tm.gt S t s = true := by
  induction hs with
  | bl h => exact h.elim
  | @fn a ss ha hl hss ih =>
    intro t ht hne
    have c1 : Tm.cov (.fn a.name ss) t = true := Tm.cov_iff.mpr fun n => by rw [ht.noflat]; exact Nat.zero_le _
    have c2 : Tm.cov t (.fn a.name ss) = true := Tm.cov_iff.mpr fun n => by rw [(TOk.fn ha hl hss).noflat]; exact Nat.zero_le _
    cases ht with
    | bl h => exact h.elim
    | @fn b ts hb hl2 hts =>
      rcases Nat.lt_trichotomy ((Tm.fn a.name ss).wt S) ((Tm.fn b.name ts).wt S) with w | w | w
      · exact .inr (Tm.gt_iff.mpr ⟨fun z => hne z.symm, c2, .inl w⟩)
      · by_cases e : a.name = b.name
        · have hab : a = b := by
            have e1 := sgOf_some hn ha
            have e2 := sgOf_some hn hb
            rw [e, e2] at e1
            exact (Option.some.inj e1).symm
          subst hab
          have := gtL_total (S := S) (hl.trans hl2.symm) (fun s hs t ht => ih s hs t (hts t ht)) (fun z => hne (by rw [z]))
          rcases this with h | h
          · exact .inl (Tm.gt_iff.mpr ⟨hne, c1, .inr ⟨w, Tm.gtI_iff.mpr ⟨_, _, _, _, rfl, rfl, .inr ⟨rfl, h⟩⟩⟩⟩)
          · exact .inr (Tm.gt_iff.mpr ⟨fun z => hne z.symm, c2, .inr ⟨w.symm, Tm.gtI_iff.mpr ⟨_, _, _, _, rfl, rfl, .inr ⟨rfl, h⟩⟩⟩⟩)
        · have hr : rkOf S a.name ≠ rkOf S b.name := fun z => e (rkOf_inj (List.mem_map.mpr ⟨a, ha, rfl⟩) (List.mem_map.mpr ⟨b, hb, rfl⟩) z)
          rcases Nat.lt_or_gt_of_ne hr with h | h
          · exact .inr (Tm.gt_iff.mpr ⟨fun z => hne z.symm, c2, .inr ⟨w.symm, Tm.gtI_iff.mpr ⟨_, _, _, _, rfl, rfl, .inl ⟨fun z => e z.symm, h⟩⟩⟩⟩)
          · exact .inl (Tm.gt_iff.mpr ⟨hne, c1, .inr ⟨w, Tm.gtI_iff.mpr ⟨_, _, _, _, rfl, rfl, .inl ⟨e, h⟩⟩⟩⟩)
      · exact .inl (Tm.gt_iff.mpr ⟨hne, c1, .inl w⟩)
/-! filling by a function; the order is kept -/
namespace Tm
mutual
def sb (g : Int → Tm) : Tm → Tm
  | .bl n => g n
  | .fn f ts => .fn f (sbL g ts)
def sbL (g : Int → Tm) : List Tm → List Tm
  | [] => []
  | t :: ts => sb g t :: sbL g ts
end
theorem sbL_map (g : Int → Tm) : ∀ ts : List Tm, sbL g ts = ts.map (sb g)
  | [] => rfl
  | t :: ts => by rw [sbL, sbL_map g ts]; rfl
mutual
theorem fill_sb (fl : Fill) : ∀ t : Tm, fill fl t = sb (fun n => (fl.val n).getD (.bl n)) t
  | .bl n => by rw [fill, sb]
  | .fn f ts => by rw [fill, sb, fillL_sb fl ts]
theorem fillL_sb (fl : Fill) : ∀ ts : List Tm, fillL fl ts = sbL (fun n => (fl.val n).getD (.bl n)) ts
  | [] => rfl
  | t :: ts => by rw [fillL, sbL, fill_sb fl t, fillL_sb fl ts]
end
mutual
theorem sb_flat (g : Int → Tm) : ∀ t : Tm, (sb g t).flat = t.flat.flatMap fun n => (g n).flat
  | .bl n => by rw [sb, flat, List.flatMap_cons, List.flatMap_nil, List.append_nil]
  | .fn f ts => by rw [sb, flat, flat, sbL_flat g ts]
theorem sbL_flat (g : Int → Tm) : ∀ ts : List Tm, flatL (sbL g ts) = (flatL ts).flatMap fun n => (g n).flat
  | [] => rfl
  | t :: ts => by rw [sbL, flatL, flatL, sb_flat g t, sbL_flat g ts, List.flatMap_append]
end
mutual
theorem sb_wt (S : List Sg) (g : Int → Tm) : ∀ t : Tm, (sb g t).wt S + t.flat.length = t.wt S + (t.flat.map fun n => (g n).wt S).sum
  | .bl n => by rw [sb, flat, wt, List.length_singleton, List.map_cons, List.map_nil, List.sum_cons, List.sum_nil]; omega
  | .fn f ts => by
    have := sbL_wt S g ts
    rw [sb, flat, wt, wt]
    omega
theorem sbL_wt (S : List Sg) (g : Int → Tm) : ∀ ts : List Tm, wtL S (sbL g ts) + (flatL ts).length = wtL S ts + ((flatL ts).map fun n => (g n).wt S).sum
  | [] => rfl
  | t :: ts => by
    have h1 := sb_wt S g t
    have h2 := sbL_wt S g ts
    rw [sbL, flatL, wtL, wtL, List.length_append, List.map_append, List.sum_append]
    omega
end
end Tm
/-- counts tell what is over -/
theorem count_le_perm {a b : List Int} (h : ∀ n, a.count n ≤ b.count n) : ∃ r, b.Perm (a ++ r) := by
  induction a generalizing b with
  | nil => exact ⟨b, .refl _⟩
  | cons n a ih =>
    have hn : n ∈ b := List.count_pos_iff.mp (Nat.lt_of_lt_of_le (by rw [List.count_cons_self]; omega) (h n))
    have hp := List.perm_cons_erase hn
    obtain ⟨r, hr⟩ := ih (b := b.erase n) fun m => by
      have h1 := h m
      have h2 := hp.count_eq m
      rw [h2] at h1
      rw [List.count_cons, List.count_cons] at h1
      omega
    exact ⟨r, hp.trans (by rw [List.cons_append]; exact hr.cons n)⟩
theorem sum_perm {a b : List Nat} (h : a.Perm b) : a.sum = b.sum := by
  induction h with
  | nil => rfl
  | cons x _ ih => rw [List.sum_cons, List.sum_cons, ih]
  | swap x y l => rw [List.sum_cons, List.sum_cons, List.sum_cons, List.sum_cons]; omega
  | trans _ _ h1 h2 => exact h1.trans h2
theorem sum_ge_len {l : List Int} {h : Int → Nat} (hh : ∀ n, 1 ≤ h n) : l.length ≤ (l.map h).sum := by
  induction l with
  | nil => exact Nat.zero_le _
  | cons a l ih => rw [List.map_cons, List.sum_cons, List.length_cons]; have := hh a; omega
theorem Tm.cov_sb {s t : Tm} (g : Int → Tm) (h : Tm.cov s t = true) : Tm.cov (sb g s) (sb g t) = true := by
  obtain ⟨r, hr⟩ := count_le_perm (Tm.cov_iff.mp h)
  refine Tm.cov_iff.mpr fun n => ?_
  rw [sb_flat, sb_flat, (hr.flatMap_right _).count_eq, List.flatMap_append, List.count_append]
  omega
/-- weights filled -/
theorem Tm.wt_sb {S : List Sg} {s t : Tm} (g : Int → Tm) (hg : ∀ n, 1 ≤ (g n).wt S) (h : Tm.cov s t = true) : (sb g t).wt S + s.wt S ≤ (sb g s).wt S + t.wt S := by
  obtain ⟨r, hr⟩ := count_le_perm (Tm.cov_iff.mp h)
  have h1 := sb_wt S g s
  have h2 := sb_wt S g t
  have h3 := sum_perm (hr.map fun n => (g n).wt S)
  have h4 := hr.length_eq
  have h5 := sum_ge_len (l := r) hg
  rw [List.map_append, List.sum_append] at h3
  rw [List.length_append] at h4
  omega
theorem gtL_sb {S : List Sg} {g : Int → Tm} {ss ts : List Tm} (ih : ∀ s, s ∈ ss → ∀ t, Tm.gt S s t = true → Tm.gt S (Tm.sb g s) (Tm.sb g t) = true) (h : Tm.gtL S ss ts = true) : Tm.gtL S (Tm.sbL g ss) (Tm.sbL g ts) = true := by
  induction ss generalizing ts with
  | nil => rw [Tm.gtL] at h; cases h
  | cons s ss ihs =>
    cases ts with
    | nil => rw [Tm.gtL] at h; cases h
    | cons t ts =>
      rw [Tm.gtL] at h
      rw [Tm.sbL, Tm.sbL, Tm.gtL]
      by_cases e : s = t
      · subst e
        rw [if_pos rfl] at h ⊢
        exact ihs (fun x hx => ih x (List.mem_cons_of_mem _ hx)) h
      · rw [if_neg e] at h
        have k := ih s List.mem_cons_self t h
        rw [if_neg (fun z => by rw [z, Tm.gt_irrefl] at k; cases k)]
        exact k
theorem gtL_ne {S : List Sg} {ss ts : List Tm} (h : Tm.gtL S ss ts = true) : ss ≠ ts := by
  induction ss generalizing ts with
  | nil => rw [Tm.gtL] at h; cases h
  | cons s ss ih =>
    cases ts with
    | nil => rw [Tm.gtL] at h; cases h
    | cons t ts =>
      rw [Tm.gtL] at h
      intro z
      injection z with z1 z2
      rw [if_pos z1] at h
      exact ih h z2
theorem Tm.gt_sb {S : List Sg} {g : Int → Tm} (hg : ∀ n, 1 ≤ (g n).wt S) : ∀ (s t : Tm), Tm.gt S s t = true → Tm.gt S (sb g s) (sb g t) = true := by
  intro s
  induction s using Tm.ind with
  | hb n =>
    intro t h
    obtain ⟨_, hc, h | ⟨_, h⟩⟩ := Tm.gt_iff.mp h
    · have := Tm.wt_sb g hg hc
      exact Tm.gt_iff.mpr ⟨fun z => by rw [z] at this; omega, Tm.cov_sb g hc, .inl (by omega)⟩
    · obtain ⟨_, _, _, _, e, _⟩ := Tm.gtI_iff.mp h; cases e
  | hf f ss ih =>
    intro t h
    obtain ⟨hne, hc, h⟩ := Tm.gt_iff.mp h
    have hw := Tm.wt_sb g hg hc
    rcases h with h | ⟨w, h⟩
    · exact Tm.gt_iff.mpr ⟨fun z => by rw [z] at hw; omega, Tm.cov_sb g hc, .inl (by omega)⟩
    · obtain ⟨_, _, k, ts, e, rfl, h⟩ := Tm.gtI_iff.mp h
      cases e
      have hI : Tm.gtI S (sb g (.fn f ss)) (sb g (.fn k ts)) = true := by
        rw [sb, sb]
        refine Tm.gtI_iff.mpr ⟨_, _, _, _, rfl, rfl, ?_⟩
        rcases h with h | ⟨h1, h⟩
        · exact .inl h
        · exact .inr ⟨h1, gtL_sb ih h⟩
      have hn2 : sb g (.fn f ss) ≠ sb g (.fn k ts) := by
        rw [sb, sb]
        intro z
        injection z with z1 z2
        rcases h with ⟨h, _⟩ | ⟨_, h⟩
        · exact h z1
        · exact gtL_ne (gtL_sb ih h) z2
      by_cases w2 : (sb g (.fn f ss)).wt S = (sb g (.fn k ts)).wt S
      · exact Tm.gt_iff.mpr ⟨hn2, Tm.cov_sb g hc, .inr ⟨w2, hI⟩⟩
      · exact Tm.gt_iff.mpr ⟨hn2, Tm.cov_sb g hc, .inl (by omega)⟩
/-! parts -/
theorem flatL_set {ts : List Tm} {i : Nat} {t u : Tm} (h : ts[i]? = some t) (n : Int) : (Tm.flatL (ts.set i u)).count n + t.flat.count n = (Tm.flatL ts).count n + u.flat.count n := by
  induction ts generalizing i with
  | nil => cases h
  | cons a ts ih =>
    cases i with
    | zero => simp at h; subst h; rw [List.set_cons_zero, Tm.flatL, Tm.flatL, List.count_append, List.count_append]; omega
    | succ i =>
      have := ih (i := i) (by simpa using h)
      rw [List.set_cons_succ, Tm.flatL, Tm.flatL, List.count_append, List.count_append]; omega
theorem wtL_set {S : List Sg} {ts : List Tm} {i : Nat} {t u : Tm} (h : ts[i]? = some t) : Tm.wtL S (ts.set i u) + t.wt S = Tm.wtL S ts + u.wt S := by
  induction ts generalizing i with
  | nil => cases h
  | cons a ts ih =>
    cases i with
    | zero => simp at h; subst h; rw [List.set_cons_zero, Tm.wtL, Tm.wtL]; omega
    | succ i =>
      have := ih (i := i) (by simpa using h)
      rw [List.set_cons_succ, Tm.wtL, Tm.wtL]; omega
theorem gtL_set {S : List Sg} {ts : List Tm} {i : Nat} {u v : Tm} (hi : i < ts.length) (h : Tm.gt S u v = true) : Tm.gtL S (ts.set i u) (ts.set i v) = true := by
  induction ts generalizing i with
  | nil => simp at hi
  | cons a ts ih =>
    cases i with
    | zero =>
      rw [List.set_cons_zero, List.set_cons_zero, Tm.gtL, if_neg (fun z => by rw [z, Tm.gt_irrefl] at h; cases h)]
      exact h
    | succ i =>
      rw [List.set_cons_succ, List.set_cons_succ, Tm.gtL, if_pos rfl]
      exact ih (by simpa using hi)
/-- a greater part makes a greater term -/
theorem Tm.gt_fn {S : List Sg} {f : Str} {ts : List Tm} {i : Nat} {u v : Tm} (hi : i < ts.length) (h : Tm.gt S u v = true) : Tm.gt S (.fn f (ts.set i u)) (.fn f (ts.set i v)) = true := by
  obtain ⟨hne, hc, hw⟩ := Tm.gt_iff.mp h
  have e := List.getElem?_eq_getElem hi
  have w1 := wtL_set (S := S) (u := u) e
  have w2 := wtL_set (S := S) (u := v) e
  have hL := gtL_set hi h
  refine Tm.gt_iff.mpr ⟨fun z => by injection z with _ z; exact gtL_ne hL z, Tm.cov_iff.mpr fun n => ?_, ?_⟩
  · have c1 := flatL_set (u := u) e n
    have c2 := flatL_set (u := v) e n
    have c3 := Tm.cov_iff.mp hc n
    rw [Tm.flat, Tm.flat]
    omega
  · rw [Tm.wt, Tm.wt]
    rcases hw with hw | ⟨hw, _⟩
    · exact .inl (by omega)
    · exact .inr ⟨by omega, Tm.gtI_iff.mpr ⟨_, _, _, _, rfl, rfl, .inr ⟨rfl, hL⟩⟩⟩
theorem Tm.gt_put {S : List Sg} {u v : Tm} (h : Tm.gt S u v = true) : ∀ (p : List Nat) (t : Tm), p ∈ t.places → Tm.gt S (Tm.put t p u) (Tm.put t p v) = true := by
  intro p
  induction p with
  | nil => intro t _; cases t <;> (rw [Tm.put, Tm.put]; exact h)
  | cons k p ih =>
    intro t hp
    cases t with
    | bl n => rw [Tm.places] at hp; simp at hp
    | fn f ts =>
      rw [Tm.mem_places, Tm.part] at hp
      split at hp
      · cases hp
      · cases e : ts[k - 1]? with
        | none => rw [e] at hp; cases hp
        | some t =>
          rw [e] at hp
          rw [Tm.put, Tm.put, e]
          have hlt := (List.getElem?_eq_some_iff.mp e).1
          have := ih t (Tm.mem_places.mpr hp)
          exact Tm.gt_fn hlt this
end Rw
namespace Rw
open PySem L2
/-! fitting -/
namespace Tm
mutual
/-- the filling that turns a pattern into a term, by parts from the right -/
def fitT : Tm → Tm → Fill → Option Fill
  | .bl n, t, fl => if (fl.val n).getD t = t then some (fl.put n t) else none
  | .fn _ _, .bl _, _ => none
  | .fn f ss, .fn g ts, fl => if f = g ∧ ss.length = ts.length then fitL ss ts fl else none
def fitL : List Tm → List Tm → Fill → Option Fill
  | s :: ss, t :: ts, fl => match fitL ss ts fl with
    | some fl' => fitT s t fl'
    | none => none
  | [], _, fl => some fl
  | _ :: _, [], fl => some fl
end
/-- a filling tells what a function tells -/
def Agr (fl : Fill) (g : Int → Tm) : Prop := ∀ n v, fl.val n = some v → v = g n
end Tm
theorem Fill.val_put {fl : Fill} {n m : Int} {t : Tm} : (fl.put n t).val m = if n = m then some t else fl.val m := by
  unfold Fill.put
  by_cases h : (fl.any fun p => decide (p.1 = n)) = true
  · rw [if_pos h]
    induction fl with
    | nil => cases h
    | cons p fl ih =>
      rw [List.map_cons, Fill.val_cons, Fill.val_cons]
      by_cases e : p.1 = n
      · rw [if_pos e]
        by_cases e2 : n = m
        · rw [if_pos e2]; simp only; rw [if_pos (e.trans e2)]
        · rw [if_neg e2]; simp only; rw [if_neg (fun z => e2 (e.symm.trans z)), if_neg (fun z => e2 (e.symm.trans z))]
          by_cases h2 : (fl.any fun p => decide (p.1 = n)) = true
          · rw [ih h2, if_neg e2]
          · have : fl.map (fun p => if p.1 = n then (p.1, t) else p) = fl := by
              conv => rhs; rw [← List.map_id fl]
              refine List.map_congr_left fun q hq => ?_
              rw [if_neg]; rfl
              intro z
              exact h2 (List.any_eq_true.mpr ⟨q, hq, decide_eq_true z⟩)
            rw [this]
      · rw [if_neg e]
        have h2 : (fl.any fun p => decide (p.1 = n)) = true := by
          rw [List.any_cons, decide_eq_false e, Bool.false_or] at h; exact h
        rw [ih h2]
        by_cases e2 : p.1 = m
        · rw [if_pos e2, if_pos e2, if_neg (fun z => e (e2.trans z.symm))]
        · rw [if_neg e2, if_neg e2]
  · rw [if_neg h]
    induction fl with
    | nil =>
      rw [List.nil_append, Fill.val_cons]
    | cons p fl ih =>
      rw [List.any_cons, Bool.or_eq_true, not_or] at h
      rw [List.cons_append, Fill.val_cons, Fill.val_cons, ih h.2]
      by_cases e2 : p.1 = m
      · rw [if_pos e2, if_pos e2, if_neg (fun z => h.1 (decide_eq_true (e2.trans z.symm)))]
      · rw [if_neg e2, if_neg e2]
theorem Fill.mem_keys {fl : Fill} {n : Int} : n ∈ fl.map (·.1) ↔ ∃ v, fl.val n = some v := by
  induction fl with
  | nil => simp [Fill.val]
  | cons p fl ih =>
    rw [List.map_cons, List.mem_cons, Fill.val_cons, ih]
    by_cases e : p.1 = n
    · rw [if_pos e]; exact ⟨fun _ => ⟨_, rfl⟩, fun _ => .inl e.symm⟩
    · rw [if_neg e]
      exact ⟨fun h => h.resolve_left (fun z => e z.symm), fun h => .inr h⟩
namespace Tm
/-- what comes of fitting: an extension that makes the term, with no other blanks -/
structure FitR (p t : Tm) (fl fl' : Fill) : Prop where
  ext : ∀ n v, fl.val n = some v → fl'.val n = some v
  key : ∀ n, n ∈ p.flat → ∃ v, fl'.val n = some v
  old : ∀ n v, fl'.val n = some v → n ∈ p.flat ∨ fl.val n = some v
  made : fill fl' p = t
structure FitRL (ps ts : List Tm) (fl fl' : Fill) : Prop where
  ext : ∀ n v, fl.val n = some v → fl'.val n = some v
  key : ∀ n, n ∈ flatL ps → ∃ v, fl'.val n = some v
  old : ∀ n v, fl'.val n = some v → n ∈ flatL ps ∨ fl.val n = some v
  made : fillL fl' ps = ts
mutual
theorem fill_ext {fl fl' : Fill} (h : ∀ n v, fl.val n = some v → fl'.val n = some v) : ∀ t : Tm, (∀ n, n ∈ t.flat → ∃ v, fl.val n = some v) → fill fl' t = fill fl t
  | .bl n, k => by
    obtain ⟨v, hv⟩ := k n (by rw [flat]; exact List.mem_singleton.mpr rfl)
    rw [fill, fill, hv, h n v hv]
  | .fn f ts, k => by rw [fill, fill, fillL_ext h ts (fun n hn => k n (by rw [flat]; exact hn))]
theorem fillL_ext {fl fl' : Fill} (h : ∀ n v, fl.val n = some v → fl'.val n = some v) : ∀ ts : List Tm, (∀ n, n ∈ flatL ts → ∃ v, fl.val n = some v) → fillL fl' ts = fillL fl ts
  | [], _ => rfl
  | t :: ts, k => by
    rw [fillL, fillL, fill_ext h t (fun n hn => k n (by rw [flatL]; exact List.mem_append_left _ hn)), fillL_ext h ts (fun n hn => k n (by rw [flatL]; exact List.mem_append_right _ hn))]
end
mutual
theorem fitT_ok : ∀ (p t : Tm) (fl fl' : Fill), fitT p t fl = some fl' → FitR p t fl fl'
  | .bl n, t, fl, fl', h => by
    rw [fitT] at h
    split at h
    · rename_i e
      cases h
      refine ⟨fun m v hv => ?_, fun m hm => ?_, fun m v hv => ?_, ?_⟩
      · rw [Fill.val_put]
        by_cases z : n = m
        · subst z; rw [if_pos rfl]; rw [hv] at e; exact congrArg some e.symm
        · rw [if_neg z]; exact hv
      · rw [flat, List.mem_singleton] at hm
        subst hm
        exact ⟨t, by rw [Fill.val_put, if_pos rfl]⟩
      · rw [Fill.val_put] at hv
        by_cases z : n = m
        · subst z; exact .inl (by rw [flat]; exact List.mem_singleton.mpr rfl)
        · rw [if_neg z] at hv; exact .inr hv
      · rw [fill, Fill.val_put, if_pos rfl]; rfl
    · cases h
  | .fn _ _, .bl _, _, _, h => by rw [fitT] at h; cases h
  | .fn f ss, .fn g ts, fl, fl', h => by
    rw [fitT] at h
    split at h
    · rename_i e
      obtain ⟨rfl, hl⟩ := e
      have r := fitL_ok ss ts fl fl' hl h
      exact ⟨r.ext, fun n hn => r.key n (by rw [flat] at hn; exact hn), fun n v hv => by rw [flat]; exact r.old n v hv, by rw [fill, r.made]⟩
    · cases h
theorem fitL_ok : ∀ (ps ts : List Tm) (fl fl' : Fill), ps.length = ts.length → fitL ps ts fl = some fl' → FitRL ps ts fl fl'
  | [], [], fl, fl', _, h => by
    rw [fitL] at h; cases h
    exact ⟨fun _ _ h => h, fun n hn => (by rw [flatL] at hn; cases hn), fun n v h => .inr h, rfl⟩
  | [], t :: ts, fl, fl', hl, h => by simp at hl
  | s :: ss, [], fl, fl', hl, h => by simp at hl
  | s :: ss, t :: ts, fl, fl', hl, h => by
    rw [fitL] at h
    split at h
    · rename_i fl1 e
      have r := fitL_ok ss ts fl fl1 (by simpa using hl) e
      have q := fitT_ok s t fl1 fl' h
      refine ⟨fun n v hv => q.ext n v (r.ext n v hv), fun n hn => ?_, fun n v hv => ?_, ?_⟩
      · rw [flatL] at hn
        rcases List.mem_append.mp hn with hn | hn
        · exact q.key n hn
        · obtain ⟨v, hv⟩ := r.key n hn
          exact ⟨v, q.ext n v hv⟩
      · rw [flatL]
        rcases q.old n v hv with hv | hv
        · exact .inl (List.mem_append_left _ hv)
        · rcases r.old n v hv with hv | hv
          · exact .inl (List.mem_append_right _ hv)
          · exact .inr hv
      · rw [fillL, q.made, fillL_ext q.ext ss r.key, r.made]
    · cases h
end
mutual
theorem fitT_some {g : Int → Tm} : ∀ (p t : Tm) (fl : Fill), sb g p = t → Agr fl g → ∃ fl', fitT p t fl = some fl' ∧ Agr fl' g
  | .bl n, t, fl, h, ha => by
    rw [sb] at h
    subst h
    rw [fitT]
    have e : (fl.val n).getD (g n) = g n := by
      cases hv : fl.val n with
      | none => rfl
      | some v => exact ha n v hv
    rw [if_pos e]
    refine ⟨_, rfl, fun m v hv => ?_⟩
    rw [Fill.val_put] at hv
    by_cases z : n = m
    · subst z; rw [if_pos rfl] at hv; exact (Option.some.inj hv).symm
    · rw [if_neg z] at hv; exact ha m v hv
  | .fn f ss, .bl n, fl, h, ha => by rw [sb] at h; cases h
  | .fn f ss, .fn k ts, fl, h, ha => by
    rw [sb] at h
    injection h with h1 h2
    have hl : ss.length = ts.length := by rw [← h2, sbL_map, List.length_map]
    rw [fitT, if_pos ⟨h1, hl⟩]
    exact fitL_some ss ts fl h2 ha
theorem fitL_some {g : Int → Tm} : ∀ (ps ts : List Tm) (fl : Fill), sbL g ps = ts → Agr fl g → ∃ fl', fitL ps ts fl = some fl' ∧ Agr fl' g
  | [], ts, fl, h, ha => ⟨fl, by cases ts <;> rw [fitL], ha⟩
  | s :: ss, [], fl, h, ha => by rw [sbL] at h; cases h
  | s :: ss, t :: ts, fl, h, ha => by
    rw [sbL] at h
    injection h with h1 h2
    obtain ⟨fl1, e1, a1⟩ := fitL_some ss ts fl h2 ha
    obtain ⟨fl2, e2, a2⟩ := fitT_some s t fl1 h1 a1
    exact ⟨fl2, by rw [fitL, e1]; exact e2, a2⟩
end
def fit (p t : Tm) : Option Fill := fitT p t []
/-- a filling as a function -/
def _root_.Rw.Fill.fn (fl : Fill) : Int → Tm := fun n => (fl.val n).getD (.bl n)
theorem fill_fn (fl : Fill) (t : Tm) : fill fl t = sb fl.fn t := fill_sb fl t
theorem fit_sb {p t : Tm} {fl : Fill} (h : fit p t = some fl) : sb fl.fn p = t := by rw [← fill_fn]; exact (fitT_ok p t [] fl h).made
theorem fit_key {p t : Tm} {fl : Fill} (h : fit p t = some fl) {n : Int} : n ∈ p.flat ↔ ∃ v, fl.val n = some v := by
  have r := fitT_ok p t [] fl h
  refine ⟨r.key n, fun ⟨v, hv⟩ => ?_⟩
  rcases r.old n v hv with z | z
  · exact z
  · cases z
theorem fit_some {p t : Tm} {g : Int → Tm} (h : sb g p = t) : ∃ fl, fit p t = some fl ∧ ∀ n, n ∈ p.flat → fl.fn n = g n := by
  obtain ⟨fl, e, a⟩ := fitT_some (g := g) p t [] h (fun n v hv => by cases hv)
  refine ⟨fl, e, fun n hn => ?_⟩
  obtain ⟨v, hv⟩ := (fit_key e).mp hn
  unfold Fill.fn
  rw [hv]
  exact a n v hv
theorem fit_none {p t : Tm} : fit p t = none ↔ ¬ ∃ g, sb g p = t := by
  constructor
  · rintro h ⟨g, hg⟩
    obtain ⟨fl, e, _⟩ := fit_some hg
    rw [h] at e; cases e
  · intro h
    cases e : fit p t with
    | none => rfl
    | some fl => exact absurd ⟨_, fit_sb e⟩ h
mutual
theorem sb_congr {g h : Int → Tm} : ∀ t : Tm, (∀ n, n ∈ t.flat → g n = h n) → sb g t = sb h t
  | .bl n, k => by rw [sb, sb]; exact k n (by rw [flat]; exact List.mem_singleton.mpr rfl)
  | .fn f ts, k => by rw [sb, sb, sbL_congr ts (fun n hn => k n (by rw [flat]; exact hn))]
theorem sbL_congr {g h : Int → Tm} : ∀ ts : List Tm, (∀ n, n ∈ flatL ts → g n = h n) → sbL g ts = sbL h ts
  | [], _ => rfl
  | t :: ts, k => by rw [sbL, sbL, sb_congr t (fun n hn => k n (by rw [flatL]; exact List.mem_append_left _ hn)), sbL_congr ts (fun n hn => k n (by rw [flatL]; exact List.mem_append_right _ hn))]
end
mutual
theorem sb_inj {g h : Int → Tm} : ∀ t : Tm, sb g t = sb h t → ∀ n, n ∈ t.flat → g n = h n
  | .bl n, e, m, hm => by rw [flat, List.mem_singleton] at hm; subst hm; rw [sb, sb] at e; exact e
  | .fn f ts, e, m, hm => by
    rw [sb, sb] at e
    injection e with _ e
    rw [flat] at hm
    exact sbL_inj ts e m hm
theorem sbL_inj {g h : Int → Tm} : ∀ ts : List Tm, sbL g ts = sbL h ts → ∀ n, n ∈ flatL ts → g n = h n
  | [], _, m, hm => by rw [flatL] at hm; cases hm
  | t :: ts, e, m, hm => by
    rw [sbL, sbL] at e
    injection e with e1 e2
    rw [flatL] at hm
    rcases List.mem_append.mp hm with hm | hm
    · exact sb_inj t e1 m hm
    · exact sbL_inj ts e2 m hm
end
mutual
theorem sb_sb (g h : Int → Tm) : ∀ t : Tm, sb h (sb g t) = sb (fun n => sb h (g n)) t
  | .bl n => by rw [sb, sb]
  | .fn f ts => by rw [sb, sb, sb, sbL_sbL g h ts]
theorem sbL_sbL (g h : Int → Tm) : ∀ ts : List Tm, sbL h (sbL g ts) = sbL (fun n => sb h (g n)) ts
  | [] => rfl
  | t :: ts => by rw [sbL, sbL, sbL, sb_sb g h t, sbL_sbL g h ts]
end
mutual
theorem sb_id : ∀ t : Tm, sb Tm.bl t = t
  | .bl n => by rw [sb]
  | .fn f ts => by rw [sb, sbL_id ts]
theorem sbL_id : ∀ ts : List Tm, sbL Tm.bl ts = ts
  | [] => rfl
  | t :: ts => by rw [sbL, sb_id t, sbL_id ts]
end
end Tm
theorem TOk.fill {S : List Sg} {B B' : Int → Prop} {t : Tm} {fl : Fill} (h : TOk S B t) (hB : ∀ n, B n → B' n) (hf : ∀ p ∈ fl, TOk S B' p.2) : TOk S B' (t.fill fl) := by
  induction h with
  | @bl n hn =>
    rw [Tm.fill]
    cases e : fl.val n with
    | none => exact .bl (hB n hn)
    | some v => exact hf _ (Fill.val_mem e)
  | @fn s ts hs hl _ ih =>
    rw [Tm.fill, Tm.fillL_map]
    refine .fn hs (by rw [List.length_map]; exact hl) fun u hu => ?_
    obtain ⟨t, ht, rfl⟩ := List.mem_map.mp hu
    exact ih t ht
end Rw
/-! rows of pairs of terms; the walk of fitting -/
namespace Rw
open PySem L2
theorem iteK {c : Prop} [Decidable c] {X T : Prop} (h : T) (k : c → T → X) : if c then X else T := by
  by_cases z : c
  · rw [if_pos z]; exact k z h
  · rw [if_neg z]; exact h
def prA (p : Tm × Tm) : AV := .tup [p.1.av, p.2.av]
def prD (p : Tm × Tm) : PyData := .tuple [p.1.dat, p.2.dat]
theorem pd_pr {G : Gp} (p : Tm × Tm) : PD G (prA p) (prD p) := .tup (.cons (Tm.pd G p.1) (.cons (Tm.pd G p.2) .nil))
theorem eqv_pr {p q : Tm × Tm} : PyData.eqv (prD p) (prD q) = true ↔ p = q := by
  obtain ⟨a, b⟩ := p
  obtain ⟨c, d⟩ := q
  have h := Tm.eqv_datL [a, b] [c, d]
  rw [Tm.datL, Tm.datL, Tm.datL, Tm.datL, Tm.datL, Tm.datL] at h
  show PyData.eqvAll [a.dat, b.dat] [c.dat, d.dat] = true ↔ _
  rw [h]
  constructor
  · intro z; injection z with z1 z2; injection z2 with z2 _; rw [z1, z2]
  · intro z; injection z with z1 z2; rw [z1, z2]
/-- a row against the empty row -/
theorem fEq_nil {α : Type} {neg : Bool} {G : Gp} {a b : Addr} {f : α → AV} {g : α → PyData} {xs : List α} {Q : AK} (ha : G a = some (.lst (xs.map f))) (hb : G b = some (.lst [])) (hp : ∀ x ∈ xs, PD G (f x) (g x)) (hc : ∀ x ∈ xs, (g x).canLay0 = true)
    (h : Q (.bl (if neg = true then !xs.isEmpty else xs.isEmpty)) G) : fEqD neg (.ref a) (.ref b) G Q := by
  refine ⟨.list (xs.map g), .list [], .lst ha (PDL.map hp), .lst hb .nil, ⟨canAll_map hc, rfl, ?_⟩, ?_⟩
  · have : PyData.depth (.list []) ≤ 2 := by decide
    omega
  · have e : PyData.eqv (.list (xs.map g)) (.list []) = xs.isEmpty := by cases xs <;> rfl
    rw [e]; exact h
namespace Tm
/-- fitting of a stack of pairs -/
def runS : List (Tm × Tm) → Fill → Option Fill
  | [], fl => some fl
  | (p, t) :: st, fl => match fitT p t fl with
    | some fl' => runS st fl'
    | none => none
theorem runS_zip : ∀ {ss ts : List Tm} {st : List (Tm × Tm)} {fl : Fill}, ss.length = ts.length → runS ((ss.zip ts).reverse ++ st) fl = match fitL ss ts fl with
    | some fl' => runS st fl'
    | none => none
  | [], [], st, fl, _ => rfl
  | [], _ :: _, _, _, h => by simp at h
  | _ :: _, [], _, _, h => by simp at h
  | s :: ss, t :: ts, st, fl, h => by
    rw [List.zip_cons_cons, List.reverse_cons, List.append_assoc, List.singleton_append, runS_zip (by simpa using h), fitL]
    cases e : fitL ss ts fl with
    | none => rfl
    | some fl' => rfl
def stP (st : List (Tm × Tm)) : Nat := sizeL (st.map (·.1))
theorem stP_cons (p : Tm × Tm) (st : List (Tm × Tm)) : stP (p :: st) = p.1.size + stP st := rfl
theorem stP_zip {ss ts : List Tm} {st : List (Tm × Tm)} (h : ss.length = ts.length) : stP ((ss.zip ts).reverse ++ st) = sizeL ss + stP st := by
  unfold stP
  rw [List.map_append, sizeL_append, List.map_reverse, sizeL_reverse]
  have : (ss.zip ts).map (·.1) = ss := List.map_fst_zip (by omega)
  rw [this]
theorem stP_len (st : List (Tm × Tm)) : st.length ≤ stP st := by
  unfold stP
  have := length_le_sizeL (st.map (·.1))
  rw [List.length_map] at this
  exact this
/-- what a stack's terms are -/
structure StOk (dp : Nat) (st : List (Tm × Tm)) : Prop where
  all : ∀ p ∈ st, p.2.dat.canLay0 = true ∧ p.2.depth ≤ dp ∧ p.1.dat.canLay0 = true
theorem canL_mem {ts : List Tm} (h : PyData.canLayAll0 (datL ts) = true) : ∀ t ∈ ts, t.dat.canLay0 = true := by
  induction ts with
  | nil => intro t ht; cases ht
  | cons a ts ih =>
    rw [datL, PyData.canLayAll0, Bool.and_eq_true] at h
    intro t ht
    rcases List.mem_cons.mp ht with rfl | ht
    · exact h.1
    · exact ih h.2 t ht
theorem can_fn {f : Str} {ts : List Tm} (h : (Tm.dat (.fn f ts)).canLay0 = true) : ∀ t ∈ ts, t.dat.canLay0 = true := by
  rw [dat, PyData.canLay0, PyData.canLayAll0, Bool.and_eq_true] at h
  exact canL_mem h.2
theorem StOk.zip {dp : Nat} {f g : Str} {ss ts : List Tm} {st : List (Tm × Tm)} (h : StOk dp st) (h1 : (Tm.dat (.fn g ts)).canLay0 = true) (h2 : (Tm.fn g ts).depth ≤ dp) (h3 : (Tm.dat (.fn f ss)).canLay0 = true) : StOk dp ((ss.zip ts).reverse ++ st) := ⟨fun p hp => by
  rcases List.mem_append.mp hp with hp | hp
  · obtain ⟨a, b⟩ := p
    have hm := List.of_mem_zip (List.mem_reverse.mp hp)
    have hd := depth_le_of_mem hm.2
    rw [depth] at h2
    exact ⟨can_fn h1 b hm.2, by show b.depth ≤ dp; omega, can_fn h3 a hm.1⟩
  · exact h.all p hp⟩
/-- what a filling's values are -/
def FlP (dp : Nat) (fl : Fill) : Prop := ∀ p ∈ fl, p.2.dat.canLay0 = true ∧ p.2.depth ≤ dp
theorem FlP.put {dp : Nat} {fl : Fill} {n : Int} {t : Tm} (h : FlP dp fl) (h1 : t.dat.canLay0 = true) (h2 : t.depth ≤ dp) : FlP dp (fl.put n t) := Fill.put_all h ⟨h1, h2⟩
theorem FlP.get {dp : Nat} {fl : Fill} {n : Int} {t : Tm} (h : FlP dp fl) (h1 : t.dat.canLay0 = true) (h2 : t.depth ≤ dp) : ((fl.val n).getD t).dat.canLay0 = true ∧ ((fl.val n).getD t).depth ≤ dp := by
  cases e : fl.val n with
  | none => exact ⟨h1, h2⟩
  | some v => exact h _ (Fill.val_mem e)
theorem zip_get {ss ts : List Tm} {i : Nat} (h1 : i < ss.length) (h2 : i < ts.length) : (ss.zip ts)[i]? = some (ss[i], ts[i]) := by
  rw [List.getElem?_eq_getElem (by rw [List.length_zip]; omega), List.getElem_zip]
theorem avL_get {ts : List Tm} {i : Nat} {x : Str} (h : i < ts.length) : atI (.str x :: avL ts) ((i : Int) + 1) = some (ts[i].av) := by
  refine atI_some (n := i + 1) ?_ (by omega)
  rw [List.getElem?_cons_succ, avL_map, List.getElem?_map, List.getElem?_eq_getElem h]
  rfl
end Tm
/-! places of whole numbers -/
def plI (p : List Int) : AV := .tup (p.map .int)
theorem plI_nat (p : List Nat) : plI (p.map fun k : Nat => (k : Int)) = plA p := by unfold plI plA; rw [List.map_map]; rfl
def plID (p : List Int) : PyData := .tuple (p.map .int)
theorem pd_plI {G : Gp} (p : List Int) : PD G (plI p) (plID p) := .tup (PDL.map fun k _ => .int _)
theorem can_plI (p : List Int) : (plID p).canLay0 = true := canAll_map (g := PyData.int) fun _ _ => rfl
theorem eqv_plI {p q : List Int} : PyData.eqv (plID p) (plID q) = true ↔ p = q := eqvAll_map (g := PyData.int) (fun _ _ => eqv_int) p q
theorem fEq_plI {neg : Bool} {G : Gp} {p q : List Int} {Q : AK} (h : ∀ c : Bool, (c = true ↔ p = q) → Q (.bl (if neg = true then !c else c)) G) : fEqD neg (plI p) (plI q) G Q := by
  refine ⟨_, _, pd_plI p, pd_plI q, ⟨can_plI _, can_plI _, ?_⟩, h _ eqv_plI⟩
  have := depth_ints p
  have h : (plID p).depth ≤ 3 := by unfold plID; rw [PyData.depth]; omega
  omega
namespace Tm
def partI : Tm → List Int → Option Tm
  | t, [] => some t
  | .bl _, _ :: _ => none
  | .fn _ ts, k :: p => if 1 ≤ k ∧ k < (ts.length : Int) + 1 then (match ts[k.toNat - 1]? with
    | some t => partI t p
    | none => none) else none
def putI : Tm → List Int → Tm → Tm
  | _, [], u => u
  | .bl n, _ :: _, _ => .bl n
  | .fn f ts, k :: p, u => match ts[k.toNat - 1]? with
    | some t => .fn f (ts.set (k.toNat - 1) (putI t p u))
    | none => .fn f ts
theorem partI_nil (t : Tm) : partI t [] = some t := by cases t <;> rfl
theorem putI_nil (t v : Tm) : putI t [] v = v := by cases t <;> rfl
theorem partI_nat : ∀ (p : List Nat) (t : Tm), partI t (p.map fun k : Nat => (k : Int)) = part t p
  | [], t => by cases t <;> rfl
  | k :: p, .bl n => rfl
  | k :: p, .fn f ts => by
    rw [List.map_cons, partI, part]
    by_cases h0 : k = 0
    · rw [if_pos h0, if_neg (by omega)]
    · rw [if_neg h0]
      by_cases hk : k < ts.length + 1
      · rw [if_pos (by omega), show (k : Int).toNat - 1 = k - 1 by omega]
        cases e : ts[k - 1]? with
        | none => rfl
        | some t => exact partI_nat p t
      · rw [if_neg (by omega), List.getElem?_eq_none (by omega)]
theorem putI_nat : ∀ (p : List Nat) (t v : Tm), putI t (p.map fun k : Nat => (k : Int)) v = put t p v
  | [], t, v => by cases t <;> rfl
  | k :: p, .bl n, v => rfl
  | k :: p, .fn f ts, v => by
    rw [List.map_cons, putI, put, show (k : Int).toNat - 1 = k - 1 by omega]
    cases e : ts[k - 1]? with
    | none => rfl
    | some t => simp only; rw [putI_nat p t v]
end Tm
theorem partI_bd {p : List Int} : ∀ {t u : Tm}, Tm.partI t p = some u → u.size ≤ t.size ∧ u.depth ≤ t.depth ∧ (t.dat.canLay0 = true → u.dat.canLay0 = true) ∧ p.length ≤ t.depth := by
  induction p with
  | nil => intro t u h; rw [Tm.partI_nil] at h; cases h; exact ⟨Nat.le_refl _, Nat.le_refl _, id, Nat.zero_le _⟩
  | cons k p ih =>
    intro t u h
    cases t with
    | bl n => rw [Tm.partI] at h; cases h
    | fn f ts =>
      rw [Tm.partI] at h
      split at h
      · cases e : ts[k.toNat - 1]? with
        | none => rw [e] at h; cases h
        | some t =>
          rw [e] at h
          obtain ⟨h1, h2, h3, h4⟩ := ih h
          have hm := List.mem_of_getElem? e
          have := Tm.size_le_of_mem hm
          have := Tm.depth_le_of_mem hm
          rw [Tm.size, Tm.depth, List.length_cons]
          exact ⟨by omega, by omega, fun hc => h3 (Tm.can_fn hc t hm), by omega⟩
      · cases h
theorem can_set {f : Str} {ts : List Tm} {i : Nat} {u : Tm} (h : (Tm.dat (.fn f ts)).canLay0 = true) (hu : u.dat.canLay0 = true) : (Tm.dat (.fn f (ts.set i u))).canLay0 = true := by
  rw [Tm.dat, PyData.canLay0, PyData.canLayAll0, Bool.and_eq_true] at h
  rw [Tm.dat, PyData.canLay0, PyData.canLayAll0, h.1]
  have : PyData.canLayAll0 (Tm.datL (ts.set i u)) = true := canLayL fun x hx => by
    rcases List.mem_or_eq_of_mem_set hx with hx | rfl
    · exact Tm.canL_mem h.2 x hx
    · exact hu
  rw [this]; rfl
theorem can_putI {v : Tm} (hv : v.dat.canLay0 = true) {p : List Int} : ∀ {t : Tm}, t.dat.canLay0 = true → (Tm.putI t p v).dat.canLay0 = true := by
  induction p with
  | nil => intro t _; rw [Tm.putI_nil]; exact hv
  | cons k p ih =>
    intro t h
    cases t with
    | bl n => exact h
    | fn f ts =>
      rw [Tm.putI]
      cases e : ts[k.toNat - 1]? with
      | none => exact h
      | some t => exact can_set h (ih (Tm.can_fn h t (List.mem_of_getElem? e)))
theorem depthL_set {ts : List Tm} {i : Nat} {u : Tm} : Tm.depthL (ts.set i u) ≤ max (Tm.depthL ts) u.depth := by
  induction ts generalizing i with
  | nil => show Tm.depthL [] ≤ _; rw [Tm.depthL]; omega
  | cons a ts ih =>
    cases i with
    | zero => rw [List.set_cons_zero, Tm.depthL, Tm.depthL]; omega
    | succ i => have := ih (i := i); rw [List.set_cons_succ, Tm.depthL, Tm.depthL]; omega
theorem depth_putI {v : Tm} (hv : v.depth = 0) {p : List Int} : ∀ {t : Tm}, (Tm.putI t p v).depth ≤ t.depth := by
  induction p with
  | nil => intro t; rw [Tm.putI_nil, hv]; exact Nat.zero_le _
  | cons k p ih =>
    intro t
    cases t with
    | bl n => exact Nat.le_refl _
    | fn f ts =>
      rw [Tm.putI]
      cases e : ts[k.toNat - 1]? with
      | none => exact Nat.le_refl _
      | some t =>
        have h1 := depthL_set (ts := ts) (i := k.toNat - 1) (u := Tm.putI t p v)
        have h2 := ih (t := t)
        have h3 := Tm.depth_le_of_mem (List.mem_of_getElem? e)
        simp only
        rw [Tm.depth, Tm.depth]
        omega
theorem can_two {f : Str} {a b : Tm} (hf : (PyData.str f).canLay0 = true) (ha : a.dat.canLay0 = true) (hb : b.dat.canLay0 = true) : (Tm.dat (.fn f [a, b])).canLay0 = true := by
  show ((PyData.str f).canLay0 && (a.dat.canLay0 && (b.dat.canLay0 && true))) = true
  rw [hf, ha, hb]; rfl
theorem size_two (f : Str) (a b : Tm) : (Tm.fn f [a, b]).size = 1 + a.size + b.size ∧ (Tm.fn f [a, b]).depth = 1 + max a.depth b.depth := by
  rw [Tm.size, Tm.sizeL, Tm.sizeL, Tm.sizeL, Tm.depth, Tm.depthL, Tm.depthL, Tm.depthL]
  omega
end Rw
namespace Rw
open PySem L2
/-! meeting -/
namespace Tm
mutual
theorem sb_size (g : Int → Tm) : ∀ t : Tm, (sb g t).size + t.flat.length = t.size + (t.flat.map fun n => (g n).size).sum
  | .bl n => by rw [sb, flat, size, List.length_singleton, List.map_cons, List.map_nil, List.sum_cons, List.sum_nil]; omega
  | .fn f ts => by
    have := sbL_size g ts
    rw [sb, flat, size, size]
    omega
theorem sbL_size (g : Int → Tm) : ∀ ts : List Tm, sizeL (sbL g ts) + (flatL ts).length = sizeL ts + ((flatL ts).map fun n => (g n).size).sum
  | [] => rfl
  | t :: ts => by
    have h1 := sb_size g t
    have h2 := sbL_size g ts
    rw [sbL, flatL, sizeL, sizeL, List.length_append, List.map_append, List.sum_append]
    omega
end
/-- one blank filled -/
def one (n : Int) (v : Tm) : Int → Tm := fun m => if n = m then v else .bl m
theorem fn_one (n : Int) (v : Tm) : Fill.fn [(n, v)] = one n v := by
  funext m
  unfold Fill.fn one
  rw [Fill.val_cons]
  by_cases h : n = m
  · rw [if_pos h, if_pos h]; rfl
  · rw [if_neg h, if_neg h]; rfl
theorem sb_one_size (n : Int) (v t : Tm) : (sb (one n v) t).size = t.size + t.flat.count n * (v.size - 1) := by
  have h := sb_size (one n v) t
  have hp := size_pos v
  have : ∀ l : List Int, (l.map fun m => (one n v m).size).sum = l.length + l.count n * (v.size - 1) := by
    intro l
    induction l with
    | nil => simp
    | cons m l ih =>
      rw [List.map_cons, List.sum_cons, ih, List.length_cons]
      unfold one
      by_cases e : n = m
      · subst e
        rw [if_pos rfl, List.count_cons_self, Nat.add_mul]
        omega
      · rw [if_neg e, List.count_cons_of_ne (fun z => e z.symm), size]
        omega
  rw [this] at h
  omega
inductive UR where
  | ok (fl : Fill)
  | no
  | heavy
  | out
def bound (fl : Fill) (n : Int) (v : Tm) (most : Nat) : Option Fill :=
  if most < v.size ∨ fl.any (fun p => decide (most < (fill [(n, v)] p.2).size)) = true then none else some ((n, v) :: fl.map fun p => (p.1, fill [(n, v)] p.2))
def pairsR : List Tm → List Tm → List (Tm × Tm) → List (Tm × Tm)
  | s :: ss, t :: ts, st => pairsR ss ts ((s, t) :: st)
  | _, _, st => st
def met1 (l r : Tm) : Tm × Tm := match r with
  | .bl n => (.bl n, l)
  | .fn _ _ => (l, r)
def metF (most : Nat) : Nat → List (Tm × Tm) → Fill → UR
  | 0, _, _ => .out
  | _ + 1, [], fl => .ok fl
  | k + 1, (l, r) :: st, fl =>
    let q := met1 (fill fl l) (fill fl r)
    if q.1 = q.2 then metF most k st fl
    else match q.1, q.2 with
      | .bl n, r => if n ∈ r.flat then .no else match bound fl n r most with
        | none => .heavy
        | some fl' => metF most k st fl'
      | .fn f ss, .fn g ts => if f = g ∧ ss.length = ts.length then metF most k (pairsR ss ts st) fl else .no
      | .fn _ _, .bl _ => .no
/-- a function takes two terms to one -/
def Uni (g : Int → Tm) (st : List (Tm × Tm)) : Prop := ∀ p ∈ st, sb g p.1 = sb g p.2
def Sat (g : Int → Tm) (fl : Fill) : Prop := ∀ n v, fl.val n = some v → g n = sb g v
/-- a filling without its own blanks in its values -/
structure Idm (fl : Fill) : Prop where
  nd : (fl.map (·.1)).Nodup
  out : ∀ p ∈ fl, ∀ n ∈ p.2.flat, fl.val n = none
theorem Sat.fill {g : Int → Tm} {fl : Fill} (h : Sat g fl) (t : Tm) : sb g (fill fl t) = sb g t := by
  rw [fill_fn, sb_sb]
  refine sb_congr t fun n _ => ?_
  unfold Fill.fn
  cases e : fl.val n with
  | none => rfl
  | some v => exact (h n v e).symm
theorem Uni.nil {g : Int → Tm} : Uni g [] := fun _ h => by cases h
theorem Uni.cons {g : Int → Tm} {l r : Tm} {st : List (Tm × Tm)} : Uni g ((l, r) :: st) ↔ sb g l = sb g r ∧ Uni g st :=
  ⟨fun h => ⟨h (l, r) List.mem_cons_self, fun p hp => h p (List.mem_cons_of_mem _ hp)⟩, fun h p hp => by
    rcases List.mem_cons.mp hp with rfl | hp
    · exact h.1
    · exact h.2 p hp⟩
theorem Uni.pairs {g : Int → Tm} : ∀ {ss ts : List Tm} {st : List (Tm × Tm)}, ss.length = ts.length → (Uni g (pairsR ss ts st) ↔ sbL g ss = sbL g ts ∧ Uni g st)
  | [], [], st, _ => by rw [pairsR]; exact ⟨fun h => ⟨rfl, h⟩, fun h => h.2⟩; all_goals (intros; simp_all)
  | [], _ :: _, _, h => by simp at h
  | _ :: _, [], _, h => by simp at h
  | s :: ss, t :: ts, st, h => by
    rw [pairsR, Uni.pairs (by simpa using h), Uni.cons, sbL, sbL]
    constructor
    · rintro ⟨h1, h2, h3⟩; exact ⟨by rw [h1, h2], h3⟩
    · rintro ⟨h1, h2⟩
      injection h1 with h3 h4
      exact ⟨h4, h3, h2⟩
theorem met1_iff {g : Int → Tm} {l r : Tm} : sb g (met1 l r).1 = sb g (met1 l r).2 ↔ sb g l = sb g r := by
  cases r with
  | bl n => exact ⟨fun h => h.symm, fun h => h.symm⟩
  | fn f ts => exact Iff.rfl
theorem met1_eq {l r : Tm} : (met1 l r).1 = (met1 l r).2 ↔ l = r := by
  cases r with
  | bl n => exact ⟨fun h => h.symm, fun h => h.symm⟩
  | fn f ts => exact Iff.rfl
/-- no term has its own image deeper within -/
theorem occurs {g : Int → Tm} {n : Int} {t : Tm} (h : g n = sb g t) (hn : n ∈ t.flat) : t = .bl n := by
  cases t with
  | bl m => rw [flat, List.mem_singleton] at hn; rw [hn]
  | fn f ts =>
    exfalso
    have hs := congrArg size h
    have : ∀ ts : List Tm, n ∈ flatL ts → (g n).size ≤ sizeL (sbL g ts) := by
      intro ts
      have hall : ∀ t : Tm, n ∈ t.flat → (g n).size ≤ (sb g t).size := by
        intro t
        induction t using Tm.ind with
        | hb m => intro hm; rw [flat, List.mem_singleton] at hm; subst hm; rw [sb]; exact Nat.le_refl _
        | hf f us ih =>
          intro hm
          rw [flat] at hm
          rw [sb, size]
          have : (g n).size ≤ sizeL (sbL g us) := by
            clear hn h hs
            induction us with
            | nil => rw [flatL] at hm; cases hm
            | cons u us ihu =>
              rw [flatL] at hm
              rw [sbL, sizeL]
              rcases List.mem_append.mp hm with hm | hm
              · have := ih u List.mem_cons_self hm; omega
              · have := ihu (fun t ht => ih t (List.mem_cons_of_mem _ ht)) hm; omega
          omega
      intro hm
      induction ts with
      | nil => rw [flatL] at hm; cases hm
      | cons u us ihu =>
        rw [flatL] at hm
        rw [sbL, sizeL]
        rcases List.mem_append.mp hm with hm | hm
        · have := hall u hm; omega
        · have := ihu hm; omega
    rw [flat] at hn
    have := this ts hn
    rw [sb, size] at hs
    omega
theorem bound_val {fl fl' : Fill} {n : Int} {v : Tm} {most : Nat} (h : bound fl n v most = some fl') (m : Int) : fl'.val m = if n = m then some v else (fl.val m).map (fill [(n, v)]) := by
  unfold bound at h
  split at h
  · cases h
  · cases h
    rw [Fill.val_cons]
    by_cases e : n = m
    · rw [if_pos e, if_pos e]
    · rw [if_neg e, if_neg e]
      rename_i hz
      clear e hz
      induction fl with
      | nil => rfl
      | cons p fl ih =>
        rw [List.map_cons, Fill.val_cons, Fill.val_cons]
        by_cases e : p.1 = m
        · rw [if_pos e, if_pos e]; rfl
        · rw [if_neg e, if_neg e, ih]
theorem bound_eq {fl fl' : Fill} {n : Int} {v : Tm} {most : Nat} (h : bound fl n v most = some fl') : fl' = (n, v) :: fl.map fun p => (p.1, fill [(n, v)] p.2) := by
  unfold bound at h
  split at h
  · cases h
  · exact (Option.some.inj h).symm
theorem bound_most {fl fl' : Fill} {n : Int} {v : Tm} {most : Nat} (h : bound fl n v most = some fl') : ∀ p ∈ fl', p.2.size ≤ most := by
  unfold bound at h
  split at h
  · cases h
  · rename_i z
    cases h
    rw [not_or] at z
    intro p hp
    rcases List.mem_cons.mp hp with rfl | hp
    · exact Nat.le_of_not_lt z.1
    · obtain ⟨q, hq, rfl⟩ := List.mem_map.mp hp
      apply Classical.byContradiction
      intro y
      exact z.2 (List.any_eq_true.mpr ⟨q, hq, decide_eq_true (by simpa using y)⟩)
theorem mem_flat_one {n m : Int} {v t : Tm} (h : m ∈ (sb (one n v) t).flat) : (m ∈ t.flat ∧ m ≠ n) ∨ m ∈ v.flat ∧ n ∈ t.flat := by
  rw [sb_flat, List.mem_flatMap] at h
  obtain ⟨k, hk, hm⟩ := h
  unfold one at hm
  by_cases e : n = k
  · subst e; rw [if_pos rfl] at hm; exact .inr ⟨hm, hk⟩
  · rw [if_neg e, flat, List.mem_singleton] at hm; subst hm; exact .inl ⟨hk, fun z => e z.symm⟩
theorem bound_idm {fl fl' : Fill} {n : Int} {v : Tm} {most : Nat} (h : bound fl n v most = some fl') (hi : Idm fl) (hn : fl.val n = none) (hv : ∀ m ∈ v.flat, fl.val m = none) (ho : n ∉ v.flat) : Idm fl' := by
  refine ⟨?_, ?_⟩
  · rw [bound_eq h, List.map_cons, List.map_map]
    refine List.nodup_cons.mpr ⟨fun z => ?_, hi.nd⟩
    obtain ⟨w, hw⟩ := Fill.mem_keys.mp z
    rw [hn] at hw; cases hw
  · intro p hp m hm
    rw [bound_val h]
    rw [bound_eq h] at hp
    rcases List.mem_cons.mp hp with rfl | hp
    · rw [if_neg (fun z => ho (by rw [z]; exact hm)), hv m hm]; rfl
    · obtain ⟨q, hq, rfl⟩ := List.mem_map.mp hp
      simp only [fill_fn, fn_one] at hm
      rcases mem_flat_one hm with ⟨h1, h2⟩ | ⟨h1, _⟩
      · rw [if_neg (fun z => h2 z.symm), hi.out q hq m h1]; rfl
      · rw [if_neg (fun z => ho (by rw [z]; exact h1)), hv m h1]; rfl
theorem bound_sat {fl fl' : Fill} {n : Int} {v : Tm} {most : Nat} {g : Int → Tm} (h : bound fl n v most = some fl') (hn : fl.val n = none) : Sat g fl' ↔ Sat g fl ∧ g n = sb g v := by
  have hone : g n = sb g v → ∀ t : Tm, sb g (fill [(n, v)] t) = sb g t := fun e t => by
    rw [fill_fn, fn_one, sb_sb]
    refine sb_congr t fun m _ => ?_
    unfold one
    by_cases z : n = m
    · subst z; rw [if_pos rfl]; exact e.symm
    · rw [if_neg z, sb]
  constructor
  · intro hs
    have e : g n = sb g v := hs n v (by rw [bound_val h, if_pos rfl])
    refine ⟨fun m w hw => ?_, e⟩
    have hm : n ≠ m := fun z => by subst z; rw [hn] at hw; cases hw
    have := hs m (fill [(n, v)] w) (by rw [bound_val h, if_neg hm, hw]; rfl)
    rw [this, hone e]
  · rintro ⟨hs, e⟩ m w hw
    rw [bound_val h] at hw
    by_cases z : n = m
    · subst z; rw [if_pos rfl] at hw; cases hw; exact e
    · rw [if_neg z] at hw
      cases hv : fl.val m with
      | none => rw [hv] at hw; cases hw
      | some u =>
        rw [hv] at hw
        cases hw
        rw [hone e]
        exact hs m u hv
theorem fill_out {fl : Fill} (hi : Idm fl) {t : Tm} {m : Int} (h : m ∈ (fill fl t).flat) : fl.val m = none := by
  rw [fill_fn, sb_flat, List.mem_flatMap] at h
  obtain ⟨k, hk, hm⟩ := h
  unfold Fill.fn at hm
  cases e : fl.val k with
  | none => rw [e] at hm; simp only [Option.getD] at hm; rw [flat, List.mem_singleton] at hm; subst hm; exact e
  | some v => rw [e] at hm; exact hi.out _ (Fill.val_mem e) m hm
end Tm
namespace Tm
theorem fn_none {fl : Fill} {n : Int} (h : fl.val n = none) : fl.fn n = .bl n := by unfold Fill.fn; rw [h]; rfl
theorem fn_some {fl : Fill} {n : Int} {v : Tm} (h : fl.val n = some v) : fl.fn n = v := by unfold Fill.fn; rw [h]; rfl
theorem fill_stay {fl : Fill} {t : Tm} (h : ∀ m ∈ t.flat, fl.val m = none) : fill fl t = t := by
  rw [fill_fn]
  conv => rhs; rw [← sb_id t]
  exact sb_congr t fun n hn => fn_none (h n hn)
theorem fill_fill {fl : Fill} (hi : Idm fl) (t : Tm) : fill fl (fill fl t) = fill fl t := fill_stay fun _ hm => fill_out hi hm
theorem fill_bound {fl fl' : Fill} {n : Int} {v : Tm} {most : Nat} (h : bound fl n v most = some fl') (hn : fl.val n = none) (t : Tm) : fill fl' t = sb (one n v) (fill fl t) := by
  rw [fill_fn, fill_fn, sb_sb]
  refine sb_congr t fun m _ => ?_
  by_cases e : n = m
  · subst e
    rw [fn_none hn, fn_some (v := v) (by rw [bound_val h, if_pos rfl]), sb]
    unfold one; rw [if_pos rfl]
  · cases hv : fl.val m with
    | none =>
      rw [fn_none hv, fn_none (by rw [bound_val h, if_neg e, hv]; rfl), sb]
      unfold one; rw [if_neg e]
    | some w => rw [fn_some hv, fn_some (v := fill [(n, v)] w) (by rw [bound_val h, if_neg e, hv]; rfl), fill_fn, fn_one]
theorem mem_pairsR {p : Tm × Tm} : ∀ {ss ts : List Tm} {st : List (Tm × Tm)}, p ∈ pairsR ss ts st → (p.1 ∈ ss ∧ p.2 ∈ ts) ∨ p ∈ st
  | [], [], _, h => by rw [pairsR] at h; exact .inr h; all_goals (intros; simp_all)
  | [], _ :: _, _, h => by rw [pairsR] at h; exact .inr h; all_goals (intros; simp_all)
  | _ :: _, [], _, h => by rw [pairsR] at h; exact .inr h; all_goals (intros; simp_all)
  | s :: ss, t :: ts, st, h => by
    rw [pairsR] at h
    rcases mem_pairsR h with ⟨h1, h2⟩ | h
    · exact .inl ⟨List.mem_cons_of_mem _ h1, List.mem_cons_of_mem _ h2⟩
    · rcases List.mem_cons.mp h with rfl | h
      · exact .inl ⟨List.mem_cons_self, List.mem_cons_self⟩
      · exact .inr h
theorem mem_flatL {n : Int} {ts : List Tm} : n ∈ flatL ts ↔ ∃ t ∈ ts, n ∈ t.flat := by
  induction ts with
  | nil => rw [flatL]; simp
  | cons t ts ih => rw [flatL, List.mem_append, ih]; simp
/-- a turn of meeting, by cases -/
theorem metF_turn {most k : Nat} {l r : Tm} {st : List (Tm × Tm)} {fl : Fill} : (∃ u v, met1 (fill fl l) (fill fl r) = (u, v) ∧
    ((u = v ∧ metF most (k + 1) ((l, r) :: st) fl = metF most k st fl) ∨
    (∃ n, u = .bl n ∧ u ≠ v ∧ n ∈ v.flat ∧ metF most (k + 1) ((l, r) :: st) fl = .no) ∨
    (∃ n, u = .bl n ∧ u ≠ v ∧ n ∉ v.flat ∧ bound fl n v most = none ∧ metF most (k + 1) ((l, r) :: st) fl = .heavy) ∨
    (∃ n fl', u = .bl n ∧ u ≠ v ∧ n ∉ v.flat ∧ bound fl n v most = some fl' ∧ metF most (k + 1) ((l, r) :: st) fl = metF most k st fl') ∨
    (∃ f ss g ts, u = .fn f ss ∧ v = .fn g ts ∧ u ≠ v ∧ f = g ∧ ss.length = ts.length ∧ metF most (k + 1) ((l, r) :: st) fl = metF most k (pairsR ss ts st) fl) ∨
    (∃ f ss g ts, u = .fn f ss ∧ v = .fn g ts ∧ u ≠ v ∧ ¬ (f = g ∧ ss.length = ts.length) ∧ metF most (k + 1) ((l, r) :: st) fl = .no))) := by
  obtain ⟨⟨u, v⟩, hq⟩ : ∃ q, met1 (fill fl l) (fill fl r) = q := ⟨_, rfl⟩
  refine ⟨u, v, hq, ?_⟩
  by_cases e : u = v
  · exact .inl ⟨e, by rw [metF, hq]; simp only; rw [if_pos e]⟩
  · refine .inr ?_
    cases u with
    | bl n =>
      by_cases h1 : n ∈ v.flat
      · exact .inl ⟨n, rfl, e, h1, by rw [metF, hq]; simp only; rw [if_neg e, if_pos h1]⟩
      · cases hb : bound fl n v most with
        | none => exact .inr (.inl ⟨n, rfl, e, h1, hb, by rw [metF, hq]; simp only; rw [if_neg e, if_neg h1, hb]⟩)
        | some fl' => exact .inr (.inr (.inl ⟨n, fl', rfl, e, h1, hb, by rw [metF, hq]; simp only; rw [if_neg e, if_neg h1, hb]⟩))
    | fn f ss =>
      cases v with
      | bl n =>
        exfalso
        generalize fill fl l = x at hq
        generalize fill fl r = y at hq
        cases y with
        | bl m => rw [met1] at hq; cases hq
        | fn g ts => rw [met1] at hq; cases hq
      | fn g ts =>
        by_cases h1 : f = g ∧ ss.length = ts.length
        · exact .inr (.inr (.inr (.inl ⟨f, ss, g, ts, rfl, rfl, e, h1.1, h1.2, by rw [metF, hq]; simp only; rw [if_neg e, if_pos h1]⟩)))
        · exact .inr (.inr (.inr (.inr ⟨f, ss, g, ts, rfl, rfl, e, h1, by rw [metF, hq]; simp only; rw [if_neg e, if_neg h1]⟩)))
theorem met1_mem {l r u v : Tm} (h : met1 l r = (u, v)) : (u = l ∧ v = r) ∨ (u = r ∧ v = l) := by
  cases r with
  | bl n => rw [met1] at h; cases h; exact .inr ⟨rfl, rfl⟩
  | fn f ts => rw [met1] at h; cases h; exact .inl ⟨rfl, rfl⟩
theorem turn_uni {g : Int → Tm} {fl : Fill} {l r u v : Tm} (h : met1 (fill fl l) (fill fl r) = (u, v)) (hs : Sat g fl) : sb g l = sb g r ↔ sb g u = sb g v := by
  have := met1_iff (g := g) (l := fill fl l) (r := fill fl r)
  rw [h] at this
  rw [this, hs.fill, hs.fill]
theorem turn_out {fl : Fill} {l r u v : Tm} (h : met1 (fill fl l) (fill fl r) = (u, v)) (hi : Idm fl) : (∀ m ∈ u.flat, fl.val m = none) ∧ ∀ m ∈ v.flat, fl.val m = none := by
  rcases met1_mem h with ⟨rfl, rfl⟩ | ⟨rfl, rfl⟩ <;> exact ⟨fun m hm => fill_out hi hm, fun m hm => fill_out hi hm⟩
theorem metF_ok {most : Nat} : ∀ (k : Nat) (st : List (Tm × Tm)) (fl fl' : Fill), Idm fl → metF most k st fl = .ok fl' → Idm fl' ∧ ∀ g, Sat g fl' ↔ Sat g fl ∧ Uni g st := by
  intro k
  induction k with
  | zero => intro st fl fl' _ h; rw [metF] at h; cases h
  | succ k ih =>
    intro st fl fl' hi h
    cases st with
    | nil => rw [metF] at h; cases h; exact ⟨hi, fun g => ⟨fun z => ⟨z, Uni.nil⟩, fun z => z.1⟩⟩
    | cons p st =>
      obtain ⟨l, r⟩ := p
      obtain ⟨u, v, hq, hc⟩ := metF_turn (most := most) (k := k) (l := l) (r := r) (st := st) (fl := fl)
      obtain ⟨o1, o2⟩ := turn_out hq hi
      rcases hc with ⟨e, hm⟩ | ⟨n, _, _, _, hm⟩ | ⟨n, _, _, _, _, hm⟩ | ⟨n, fl1, rfl, hne, hn, hb, hm⟩ | ⟨f, ss, g', ts, rfl, rfl, hne, rfl, hl, hm⟩ | ⟨f, ss, g', ts, _, _, _, _, hm⟩
      · rw [hm] at h
        obtain ⟨i1, i2⟩ := ih st fl fl' hi h
        refine ⟨i1, fun g => ?_⟩
        rw [i2 g, Uni.cons]
        exact ⟨fun ⟨a, b⟩ => ⟨a, (turn_uni hq a).mpr (by rw [e]), b⟩, fun ⟨a, _, b⟩ => ⟨a, b⟩⟩
      · rw [hm] at h; cases h
      · rw [hm] at h; cases h
      · rw [hm] at h
        have hv := o1 n (by rw [flat]; exact List.mem_singleton.mpr rfl)
        obtain ⟨i1, i2⟩ := ih st fl1 fl' (bound_idm hb hi hv o2 hn) h
        refine ⟨i1, fun g => ?_⟩
        rw [i2 g, Uni.cons, bound_sat hb hv]
        constructor
        · rintro ⟨⟨a, b⟩, c⟩; exact ⟨a, (turn_uni hq a).mpr (by rw [sb]; exact b), c⟩
        · rintro ⟨a, b, c⟩
          have := (turn_uni hq a).mp b
          rw [sb] at this
          exact ⟨⟨a, this⟩, c⟩
      · rw [hm] at h
        obtain ⟨i1, i2⟩ := ih _ fl fl' hi h
        refine ⟨i1, fun g => ?_⟩
        rw [i2 g, Uni.cons, Uni.pairs hl]
        constructor
        · rintro ⟨a, b, c⟩; exact ⟨a, (turn_uni hq a).mpr (by rw [sb, sb, b]), c⟩
        · rintro ⟨a, b, c⟩
          have := (turn_uni hq a).mp b
          rw [sb, sb] at this
          injection this with _ this
          exact ⟨a, this, c⟩
      · rw [hm] at h; cases h
theorem metF_no {most : Nat} : ∀ (k : Nat) (st : List (Tm × Tm)) (fl : Fill), Idm fl → metF most k st fl = .no → ∀ g, Sat g fl → ¬ Uni g st := by
  intro k
  induction k with
  | zero => intro st fl _ h; rw [metF] at h; cases h
  | succ k ih =>
    intro st fl hi h g hs hu
    cases st with
    | nil => rw [metF] at h; cases h
    | cons p st =>
      obtain ⟨l, r⟩ := p
      rw [Uni.cons] at hu
      obtain ⟨u, v, hq, hc⟩ := metF_turn (most := most) (k := k) (l := l) (r := r) (st := st) (fl := fl)
      obtain ⟨o1, o2⟩ := turn_out hq hi
      have huv := (turn_uni hq hs).mp hu.1
      rcases hc with ⟨e, hm⟩ | ⟨n, rfl, hne, hn, hm⟩ | ⟨n, _, _, _, _, hm⟩ | ⟨n, fl1, rfl, hne, hn, hb, hm⟩ | ⟨f, ss, g', ts, rfl, rfl, hne, rfl, hl, hm⟩ | ⟨f, ss, g', ts, rfl, rfl, _, hd, hm⟩
      · rw [hm] at h; exact ih st fl hi h g hs hu.2
      · rw [sb] at huv; exact hne (occurs huv hn).symm
      · rw [hm] at h; cases h
      · rw [hm] at h
        have hv := o1 n (by rw [flat]; exact List.mem_singleton.mpr rfl)
        rw [sb] at huv
        exact ih st fl1 (bound_idm hb hi hv o2 hn) h g ((bound_sat hb hv).mpr ⟨hs, huv⟩) hu.2
      · rw [hm] at h
        rw [sb, sb] at huv
        injection huv with _ huv
        exact ih _ fl hi h g hs ((Uni.pairs hl).mpr ⟨huv, hu.2⟩)
      · rw [sb, sb] at huv
        injection huv with h1 h2
        exact hd ⟨h1, by have := congrArg List.length h2; rw [sbL_map, sbL_map, List.length_map, List.length_map] at this; exact this⟩
theorem metF_more {most : Nat} : ∀ (k : Nat) (st : List (Tm × Tm)) (fl : Fill), metF most k st fl ≠ .out → metF most (k + 1) st fl = metF most k st fl := by
  intro k
  induction k with
  | zero => intro st fl h; exact absurd rfl h
  | succ k ih =>
    intro st fl h
    cases st with
    | nil => rfl
    | cons p st =>
      obtain ⟨l, r⟩ := p
      rw [metF] at h
      rw [metF]
      conv => rhs; rw [metF]
      by_cases e : (met1 (fill fl l) (fill fl r)).1 = (met1 (fill fl l) (fill fl r)).2
      · rw [if_pos e] at h
        rw [if_pos e, if_pos e]
        exact ih _ _ h
      · rw [if_neg e] at h
        rw [if_neg e, if_neg e]
        generalize met1 (fill fl l) (fill fl r) = q at *
        obtain ⟨u, v⟩ := q
        cases u with
        | bl n =>
          simp only at h ⊢
          split
          · rfl
          · rename_i hn
            rw [if_neg hn] at h
            cases hb : bound fl n v most with
            | none => rfl
            | some fl' => rw [hb] at h; exact ih _ _ h
        | fn f ss =>
          cases v with
          | bl n => rfl
          | fn g ts =>
            simp only at h ⊢
            split
            · rename_i hn
              rw [if_pos hn] at h
              exact ih _ _ h
            · rfl
def stSize (fl : Fill) (st : List (Tm × Tm)) : Nat := (st.map fun p => (fill fl p.1).size + (fill fl p.2).size).sum
theorem stSize_pairs {fl : Fill} {ss ts : List Tm} {st : List (Tm × Tm)} (hl : ss.length = ts.length) : stSize fl (pairsR ss ts st) = sizeL (fillL fl ss) + sizeL (fillL fl ts) + stSize fl st := by
  induction ss generalizing ts st with
  | nil =>
    cases ts with
    | nil => rw [pairsR, fillL, sizeL]; omega; all_goals (intros; simp_all)
    | cons t ts => simp at hl
  | cons s ss ih =>
    cases ts with
    | nil => simp at hl
    | cons t ts =>
      rw [pairsR, ih (by simpa using hl), fillL, fillL, sizeL, sizeL]
      unfold stSize
      rw [List.map_cons, List.sum_cons]
      simp only
      omega
theorem metF_end {most : Nat} : ∀ (N : Nat) (M : Nat) (st : List (Tm × Tm)) (fl : Fill) (L : List Int), Idm fl → L.length = N → (∀ p ∈ st, (∀ m ∈ (fill fl p.1).flat, m ∈ L) ∧ ∀ m ∈ (fill fl p.2).flat, m ∈ L) → stSize fl st ≤ M → ∃ k, metF most k st fl ≠ .out := by
  intro N
  induction N with
  | zero =>
    intro M
    induction M with
    | zero =>
      intro st fl L hi hL hb hs
      cases st with
      | nil => exact ⟨1, fun z => by rw [metF] at z; cases z⟩
      | cons p st =>
        unfold stSize at hs
        rw [List.map_cons, List.sum_cons] at hs
        have := size_pos (fill fl p.1)
        omega
    | succ M ihM =>
      intro st fl L hi hL hb hs
      cases st with
      | nil => exact ⟨1, fun z => by rw [metF] at z; cases z⟩
      | cons p st =>
        obtain ⟨l, r⟩ := p
        obtain ⟨u, v, hq, _⟩ := metF_turn (most := most) (k := 0) (l := l) (r := r) (st := st) (fl := fl)
        have hbs : ∀ p ∈ st, (∀ m ∈ (fill fl p.1).flat, m ∈ L) ∧ ∀ m ∈ (fill fl p.2).flat, m ∈ L := fun p hp => hb p (List.mem_cons_of_mem _ hp)
        have hss : stSize fl st + 2 ≤ stSize fl ((l, r) :: st) := by
          unfold stSize; rw [List.map_cons, List.sum_cons]
          have := size_pos (fill fl l); have := size_pos (fill fl r)
          simp only; omega
        obtain ⟨b1, b2⟩ := hb (l, r) List.mem_cons_self
        have hL0 : L = [] := List.length_eq_zero_iff.mp hL
        by_cases e : u = v
        · obtain ⟨k, hk⟩ := ihM st fl L hi hL hbs (by omega)
          refine ⟨k + 1, ?_⟩
          rw [metF, hq]
          simp only
          rw [if_pos e]; exact hk
        · cases u with
          | bl n =>
            exfalso
            have : n ∈ L := by
              rcases met1_mem hq with ⟨h1, _⟩ | ⟨h1, _⟩
              · exact b1 n (by rw [← h1, flat]; exact List.mem_singleton.mpr rfl)
              · exact b2 n (by rw [← h1, flat]; exact List.mem_singleton.mpr rfl)
            rw [hL0] at this; cases this
          | fn f ss =>
            cases v with
            | bl n => exact ⟨1, by rw [metF, hq]; simp only; rw [if_neg e]; intro z; cases z⟩
            | fn g ts =>
              by_cases hd : f = g ∧ ss.length = ts.length
              · have hsz : (Tm.fn f ss).size + (Tm.fn g ts).size = (fill fl l).size + (fill fl r).size := by
                  rcases met1_mem hq with ⟨h1, h2⟩ | ⟨h1, h2⟩ <;> (rw [h1, h2]) <;> omega
                obtain ⟨o1, o2⟩ := turn_out hq hi
                have ef : ∀ x : Tm, x ∈ ss ∨ x ∈ ts → fill fl x = x := fun x hx => fill_stay fun m hm => by
                  rcases hx with hx | hx
                  · exact o1 m (by rw [flat]; exact mem_flatL.mpr ⟨x, hx, hm⟩)
                  · exact o2 m (by rw [flat]; exact mem_flatL.mpr ⟨x, hx, hm⟩)
                have el : ∀ xs : List Tm, (∀ x ∈ xs, fill fl x = x) → fillL fl xs = xs := fun xs hx => by
                  rw [fillL_map]; conv => rhs; rw [← List.map_id xs]
                  exact List.map_congr_left hx
                have e1 := el ss fun x hx => ef x (.inl hx)
                have e2 := el ts fun x hx => ef x (.inr hx)
                have hbp : ∀ p ∈ pairsR ss ts st, (∀ m ∈ (fill fl p.1).flat, m ∈ L) ∧ ∀ m ∈ (fill fl p.2).flat, m ∈ L := by
                  intro p hp
                  rcases mem_pairsR hp with ⟨h1, h2⟩ | hp
                  · rw [ef _ (.inl h1), ef _ (.inr h2)]
                    have hin : ∀ m, (m ∈ (Tm.fn f ss).flat ∨ m ∈ (Tm.fn g ts).flat) → m ∈ L := by
                      intro m hm
                      rcases met1_mem hq with ⟨q1, q2⟩ | ⟨q1, q2⟩
                      · rw [q1, q2] at hm; exact hm.elim (b1 m) (b2 m)
                      · rw [q1, q2] at hm; exact hm.elim (b2 m) (b1 m)
                    exact ⟨fun m hm => hin m (.inl (by rw [flat]; exact mem_flatL.mpr ⟨_, h1, hm⟩)), fun m hm => hin m (.inr (by rw [flat]; exact mem_flatL.mpr ⟨_, h2, hm⟩))⟩
                  · exact hbs p hp
                have hsp : stSize fl (pairsR ss ts st) ≤ M := by
                  rw [stSize_pairs hd.2, e1, e2]
                  rw [size, size] at hsz
                  have : stSize fl ((l, r) :: st) = (fill fl l).size + (fill fl r).size + stSize fl st := by unfold stSize; rw [List.map_cons, List.sum_cons]
                  omega
                obtain ⟨k, hk⟩ := ihM (pairsR ss ts st) fl L hi hL hbp hsp
                refine ⟨k + 1, ?_⟩
                rw [metF, hq]
                simp only
                rw [if_neg e, if_pos hd]; exact hk
              · exact ⟨1, by rw [metF, hq]; simp only; rw [if_neg e, if_neg hd]; intro z; cases z⟩
  | succ N ihN =>
    intro M
    induction M with
    | zero =>
      intro st fl L hi hL hb hs
      cases st with
      | nil => exact ⟨1, fun z => by rw [metF] at z; cases z⟩
      | cons p st =>
        unfold stSize at hs
        rw [List.map_cons, List.sum_cons] at hs
        have := size_pos (fill fl p.1)
        omega
    | succ M ihM =>
      intro st fl L hi hL hb hs
      cases st with
      | nil => exact ⟨1, fun z => by rw [metF] at z; cases z⟩
      | cons p st =>
        obtain ⟨l, r⟩ := p
        obtain ⟨u, v, hq, _⟩ := metF_turn (most := most) (k := 0) (l := l) (r := r) (st := st) (fl := fl)
        have hbs : ∀ p ∈ st, (∀ m ∈ (fill fl p.1).flat, m ∈ L) ∧ ∀ m ∈ (fill fl p.2).flat, m ∈ L := fun p hp => hb p (List.mem_cons_of_mem _ hp)
        have hss : stSize fl st + 2 ≤ stSize fl ((l, r) :: st) := by
          unfold stSize; rw [List.map_cons, List.sum_cons]
          have := size_pos (fill fl l); have := size_pos (fill fl r)
          simp only; omega
        obtain ⟨b1, b2⟩ := hb (l, r) List.mem_cons_self
        obtain ⟨o1, o2⟩ := turn_out hq hi
        by_cases e : u = v
        · obtain ⟨k, hk⟩ := ihM st fl L hi hL hbs (by omega)
          refine ⟨k + 1, ?_⟩
          rw [metF, hq]
          simp only
          rw [if_pos e]; exact hk
        · have hin : ∀ m, (m ∈ u.flat ∨ m ∈ v.flat) → m ∈ L := by
            intro m hm
            rcases met1_mem hq with ⟨q1, q2⟩ | ⟨q1, q2⟩
            · rw [q1, q2] at hm; exact hm.elim (b1 m) (b2 m)
            · rw [q1, q2] at hm; exact hm.elim (b2 m) (b1 m)
          cases u with
          | bl n =>
            by_cases hn : n ∈ v.flat
            · exact ⟨1, by rw [metF, hq]; simp only; rw [if_neg e, if_pos hn]; intro z; cases z⟩
            · cases hbd : bound fl n v most with
              | none => exact ⟨1, by rw [metF, hq]; simp only; rw [if_neg e, if_neg hn, hbd]; intro z; cases z⟩
              | some fl' =>
                have hnn := o1 n (by rw [flat]; exact List.mem_singleton.mpr rfl)
                have hnL : n ∈ L := hin n (.inl (by rw [flat]; exact List.mem_singleton.mpr rfl))
                have hone : ∀ x : Tm, (∀ m ∈ x.flat, m ∈ L) → ∀ m ∈ (sb (one n v) x).flat, m ∈ L.erase n := by
                  intro x hx m hm
                  rcases mem_flat_one hm with ⟨h1, h2⟩ | ⟨h1, _⟩
                  · exact (List.mem_erase_of_ne h2).mpr (hx m h1)
                  · exact (List.mem_erase_of_ne (fun z => hn (by rw [← z]; exact h1))).mpr (hin m (.inr h1))
                obtain ⟨k, hk⟩ := ihN (stSize fl' st) st fl' (L.erase n) (bound_idm hbd hi hnn o2 hn) (by rw [List.length_erase_of_mem hnL, hL]; rfl) (fun p hp => by
                  rw [fill_bound hbd hnn, fill_bound hbd hnn]
                  exact ⟨hone _ (hbs p hp).1, hone _ (hbs p hp).2⟩) (Nat.le_refl _)
                refine ⟨k + 1, ?_⟩
                rw [metF, hq]
                simp only
                rw [if_neg e, if_neg hn, hbd]; exact hk
          | fn f ss =>
            cases v with
            | bl n => exact ⟨1, by rw [metF, hq]; simp only; rw [if_neg e]; intro z; cases z⟩
            | fn g ts =>
              by_cases hd : f = g ∧ ss.length = ts.length
              · have hsz : (Tm.fn f ss).size + (Tm.fn g ts).size = (fill fl l).size + (fill fl r).size := by
                  rcases met1_mem hq with ⟨h1, h2⟩ | ⟨h1, h2⟩ <;> (rw [h1, h2]) <;> omega
                have ef : ∀ x : Tm, x ∈ ss ∨ x ∈ ts → fill fl x = x := fun x hx => fill_stay fun m hm => by
                  rcases hx with hx | hx
                  · exact o1 m (by rw [flat]; exact mem_flatL.mpr ⟨x, hx, hm⟩)
                  · exact o2 m (by rw [flat]; exact mem_flatL.mpr ⟨x, hx, hm⟩)
                have el : ∀ xs : List Tm, (∀ x ∈ xs, fill fl x = x) → fillL fl xs = xs := fun xs hx => by
                  rw [fillL_map]; conv => rhs; rw [← List.map_id xs]
                  exact List.map_congr_left hx
                have e1 := el ss fun x hx => ef x (.inl hx)
                have e2 := el ts fun x hx => ef x (.inr hx)
                have hbp : ∀ p ∈ pairsR ss ts st, (∀ m ∈ (fill fl p.1).flat, m ∈ L) ∧ ∀ m ∈ (fill fl p.2).flat, m ∈ L := by
                  intro p hp
                  rcases mem_pairsR hp with ⟨h1, h2⟩ | hp
                  · rw [ef _ (.inl h1), ef _ (.inr h2)]
                    exact ⟨fun m hm => hin m (.inl (by rw [flat]; exact mem_flatL.mpr ⟨_, h1, hm⟩)), fun m hm => hin m (.inr (by rw [flat]; exact mem_flatL.mpr ⟨_, h2, hm⟩))⟩
                  · exact hbs p hp
                have hsp : stSize fl (pairsR ss ts st) ≤ M := by
                  rw [stSize_pairs hd.2, e1, e2]
                  rw [size, size] at hsz
                  have : stSize fl ((l, r) :: st) = (fill fl l).size + (fill fl r).size + stSize fl st := by unfold stSize; rw [List.map_cons, List.sum_cons]
                  omega
                obtain ⟨k, hk⟩ := ihM (pairsR ss ts st) fl L hi hL hbp hsp
                refine ⟨k + 1, ?_⟩
                rw [metF, hq]
                simp only
                rw [if_neg e, if_pos hd]; exact hk
              · exact ⟨1, by rw [metF, hq]; simp only; rw [if_neg e, if_neg hd]; intro z; cases z⟩
end Tm
end Rw
/-! the walk of meeting -/
namespace Rw
open PySem L2
theorem Fill.put_new {fl : Fill} {n : Int} {t : Tm} (h : ∀ q ∈ fl, q.1 ≠ n) : fl.put n t = fl ++ [(n, t)] := by
  unfold Fill.put
  rw [if_neg]
  intro z
  obtain ⟨q, hq, e⟩ := List.any_eq_true.mp z
  exact h q hq (of_decide_eq_true e)
namespace Tm
theorem fill_one_size (n : Int) (v t : Tm) : (fill [(n, v)] t).size = t.size + t.flat.count n * (v.size - 1) := by
  rw [fill_fn, fn_one, sb_one_size]
theorem pairsR_eq : ∀ (ss ts : List Tm) (st : List (Tm × Tm)), pairsR ss ts st = (ss.zip ts).reverse ++ st
  | [], [], st => by rw [pairsR]; rfl; all_goals (intros; simp_all)
  | [], _ :: _, st => by rw [pairsR]; rfl; all_goals (intros; simp_all)
  | _ :: _, [], st => by rw [pairsR]; rfl; all_goals (intros; simp_all)
  | s :: ss, t :: ts, st => by
    rw [pairsR, pairsR_eq ss ts, List.zip_cons_cons, List.reverse_cons, List.append_assoc]; rfl
theorem idm_nil : Idm [] := ⟨by simp, fun p hp => by cases hp⟩
/-- meeting: the answer of a walk that is long enough -/
noncomputable def meet (most : Nat) (s t : Tm) : UR := @dite _ (∃ k, metF most k [(s, t)] [] ≠ .out) (Classical.propDecidable _) (fun h => metF most (Classical.choose h) [(s, t)] []) (fun _ => .out)
theorem metF_le {most k j : Nat} {st : List (Tm × Tm)} {fl : Fill} (h : metF most k st fl ≠ .out) (hj : k ≤ j) : metF most j st fl = metF most k st fl := by
  induction hj with
  | refl => rfl
  | step _ ih => rw [metF_more _ _ _ (by rw [ih]; exact h), ih]
theorem meet_ex (most : Nat) (s t : Tm) : ∃ k, metF most k [(s, t)] [] = meet most s t ∧ meet most s t ≠ .out := by
  have h : ∃ k, metF most k [(s, t)] [] ≠ .out := by
    have hi : Idm [] := idm_nil
    have e : ∀ x : Tm, fill [] x = x := fun x => fill_stay fun _ _ => rfl
    refine metF_end (s.flat ++ t.flat).length _ [(s, t)] [] (s.flat ++ t.flat) hi rfl ?_ (Nat.le_refl _)
    intro p hp
    rw [List.mem_singleton.mp hp, e, e]
    exact ⟨fun m hm => List.mem_append_left _ hm, fun m hm => List.mem_append_right _ hm⟩
  refine ⟨Classical.choose h, ?_, ?_⟩
  · unfold meet; rw [dif_pos h]
  · unfold meet; rw [dif_pos h]; exact Classical.choose_spec h
theorem meet_ok {most : Nat} {s t : Tm} {fl : Fill} (h : meet most s t = .ok fl) : Idm fl ∧ (∀ g, Sat g fl ↔ sb g s = sb g t) := by
  obtain ⟨k, hk, _⟩ := meet_ex most s t
  rw [h] at hk
  obtain ⟨h1, h2⟩ := metF_ok k _ _ _ idm_nil hk
  refine ⟨h1, fun g => ?_⟩
  rw [h2 g, Uni.cons]
  exact ⟨fun z => z.2.1, fun z => ⟨(fun n v hv => by cases hv), z, Uni.nil⟩⟩
theorem meet_no {most : Nat} {s t : Tm} (h : meet most s t = .no) (g : Int → Tm) : sb g s ≠ sb g t := by
  obtain ⟨k, hk, _⟩ := meet_ex most s t
  rw [h] at hk
  intro z
  exact metF_no k _ _ idm_nil hk g (fun n v hv => by cases hv) (Uni.cons.mpr ⟨z, Uni.nil⟩)
/-- plain names, at most four parts -/
inductive Gd : Tm → Prop
  | bl (n : Int) : Gd (.bl n)
  | fn {f : Str} {ts : List Tm} : (PyData.str f).canLay0 = true → ts.length ≤ 4 → (∀ t ∈ ts, Gd t) → Gd (.fn f ts)
theorem Gd.can {t : Tm} (h : Gd t) : t.dat.canLay0 = true := by
  induction h with
  | bl n => rfl
  | fn h1 _ _ ih =>
    show ((PyData.str _).canLay0 && PyData.canLayAll0 (Tm.datL _)) = true
    rw [h1, canLayL ih]; rfl
theorem Gd.arg {f : Str} {ts : List Tm} (h : Gd (.fn f ts)) : ts.length ≤ 4 ∧ ∀ t ∈ ts, Gd t := by
  cases h with
  | fn _ h2 h3 => exact ⟨h2, h3⟩
theorem Gd.fill {fl : Fill} (hf : ∀ p ∈ fl, Gd p.2) {t : Tm} (h : Gd t) : Gd (Tm.fill fl t) := by
  induction h with
  | bl n =>
    rw [Tm.fill]
    cases e : fl.val n with
    | none => exact .bl n
    | some v => exact hf _ (Fill.val_mem e)
  | fn h1 h2 _ ih =>
    rw [Tm.fill, fillL_map]
    refine .fn h1 (by rw [List.length_map]; exact h2) fun u hu => ?_
    obtain ⟨x, hx, rfl⟩ := List.mem_map.mp hu
    exact ih x hx
theorem _root_.Rw.TOk.gd {S : List Sg} {B : Int → Prop} {t : Tm} (hS : NamesOk (S.map Sg.name)) (ha : ∀ s ∈ S, s.ar ≤ 4) (h : TOk S B t) : Gd t := by
  induction h with
  | bl _ => exact .bl _
  | fn hs hl _ ih => exact .fn (hS.ok _ (List.mem_map.mpr ⟨_, hs, rfl⟩)).str (by rw [hl]; exact ha _ hs) ih
theorem fill_flat {fl : Fill} {L : List Int} (hf : ∀ p ∈ fl, ∀ n ∈ p.2.flat, n ∈ L) {t : Tm} (h : ∀ n ∈ t.flat, n ∈ L) : ∀ n ∈ (fill fl t).flat, n ∈ L := by
  intro n hn
  rw [fill_fn, sb_flat, List.mem_flatMap] at hn
  obtain ⟨m, hm, hn⟩ := hn
  unfold Fill.fn at hn
  cases e : fl.val m with
  | none => rw [e] at hn; simp only [Option.getD] at hn; rw [flat, List.mem_singleton] at hn; subst hn; exact h n hm
  | some v => rw [e] at hn; exact hf _ (Fill.val_mem e) n hn
/-- what a stacked term is: plain, not too large, filled like a small one -/
structure MeT (most : Nat) (L : List Int) (fl : Fill) (x : Tm) : Prop where
  gd : Gd x
  dp : x.depth ≤ 200
  sz : x.size ≤ 100000
  inL : ∀ n ∈ x.flat, n ∈ L
  org : ∃ o : Tm, o.depth ≤ 100 ∧ o.size ≤ 1000 ∧ Gd o ∧ Tm.fill fl x = Tm.fill fl o
structure MeF (most : Nat) (L : List Int) (fl : Fill) : Prop where
  idm : Idm fl
  val : ∀ p ∈ fl, Gd p.2 ∧ p.2.size ≤ most ∧ p.1 ∈ L ∧ ∀ n ∈ p.2.flat, n ∈ L
theorem MeF.depth {most : Nat} {L : List Int} {fl : Fill} (h : MeF most L fl) : ∀ p ∈ fl, p.2.depth ≤ most := fun p hp => Nat.le_trans (depth_le_size p.2) (h.val p hp).2.1
theorem nodup_len : ∀ (xs L : List Int), xs.Nodup → (∀ n ∈ xs, n ∈ L) → xs.length ≤ L.length
  | [], _, _, _ => Nat.zero_le _
  | a :: xs, L, hn, hs => by
    have ha := hs a List.mem_cons_self
    have hn := List.nodup_cons.mp hn
    have := nodup_len xs (L.erase a) hn.2 fun n hx => (List.mem_erase_of_ne (fun z => hn.1 (by rw [← z]; exact hx))).mpr (hs n (List.mem_cons_of_mem _ hx))
    rw [List.length_erase_of_mem ha] at this
    have hp := List.length_pos_of_mem ha
    rw [List.length_cons]
    omega
theorem MeF.len {most : Nat} {L : List Int} {fl : Fill} (h : MeF most L fl) : fl.length ≤ L.length := by
  have := nodup_len (fl.map (·.1)) L h.idm.nd fun n hn => by
    obtain ⟨p, hp, rfl⟩ := List.mem_map.mp hn
    exact (h.val p hp).2.2.1
  rw [List.length_map] at this
  exact this
theorem MeT.fill {most : Nat} {L : List Int} {fl : Fill} {x : Tm} (h1 : 1 ≤ most) (hm : most ≤ 100) (hf : MeF most L fl) (h : MeT most L fl x) : Gd (Tm.fill fl x) ∧ (Tm.fill fl x).depth ≤ 200 ∧ (Tm.fill fl x).size ≤ 100000 ∧ ∀ n ∈ (Tm.fill fl x).flat, n ∈ L := by
  have hfl := fill_flat (fun p hp => (hf.val p hp).2.2.2) h.inL
  obtain ⟨o, o1, o2, o3, o4⟩ := h.org
  rw [o4] at hfl ⊢
  have d := fill_depth hf.depth o
  have s := fill_size h1 (fun p hp => (hf.val p hp).2.1) o
  refine ⟨o3.fill fun p hp => (hf.val p hp).1, by omega, ?_, hfl⟩
  have : o.size * most ≤ 1000 * 100 := Nat.mul_le_mul o2 hm
  omega
/-- a part of a filled term -/
theorem MeT.part {most : Nat} {L : List Int} {fl : Fill} {x u : Tm} {f : Str} {us : List Tm} (h1 : 1 ≤ most) (hm : most ≤ 100) (hf : MeF most L fl) (h : MeT most L fl x) (e : Tm.fill fl x = .fn f us) (hu : u ∈ us) : MeT most L fl u ∧ Tm.fill fl u = u := by
  obtain ⟨c1, c2, c3, c4⟩ := h.fill h1 hm hf
  obtain ⟨o, o1, o2, o3, o4⟩ := h.org
  rw [e] at c1 c2 c3 c4 o4
  have hd := depth_le_of_mem hu
  have hs := size_le_of_mem hu
  rw [Tm.depth] at c2
  rw [Tm.size] at c3
  have hc := c1.arg.2 u hu
  have hst : Tm.fill fl u = u := fill_stay fun m hm' => by
    have : m ∈ (Tm.fill fl o).flat := by rw [← o4, flat]; exact mem_flatL.mpr ⟨u, hu, hm'⟩
    exact fill_out hf.idm this
  refine ⟨⟨hc, by omega, by omega, fun n hn => c4 n (by rw [flat]; exact mem_flatL.mpr ⟨u, hu, hn⟩), ?_⟩, hst⟩
  cases o with
  | bl n =>
    refine ⟨u, ?_, ?_, hc, rfl⟩
    all_goals
      have hv : fl.val n = some (.fn f us) := by
        rw [Tm.fill] at o4
        cases e2 : fl.val n with
        | none => rw [e2] at o4; cases o4
        | some v => rw [e2] at o4; rw [o4]; rfl
      have hvm := hf.val _ (Fill.val_mem hv)
      have hdv := hf.depth _ (Fill.val_mem hv)
      simp only at hvm hdv
      rw [Tm.size] at hvm
      rw [Tm.depth] at hdv
      omega
  | fn g os =>
    rw [Tm.fill, fillL_map] at o4
    injection o4 with o4 o5
    rw [o5] at hu
    obtain ⟨o', ho', e'⟩ := List.mem_map.mp hu
    have hd' := depth_le_of_mem ho'
    have hs' := size_le_of_mem ho'
    rw [Tm.depth] at o1
    rw [Tm.size] at o2
    refine ⟨o', by omega, by omega, o3.arg.2 o' ho', ?_⟩
    rw [hst, e']
theorem MeT.bound {most : Nat} {L : List Int} {fl fl' : Fill} {n : Int} {v x : Tm} (hb : Tm.bound fl n v most = some fl') (hn : fl.val n = none) (h : MeT most L fl x) : MeT most L fl' x := by
  obtain ⟨o, o1, o2, o3, o4⟩ := h.org
  exact ⟨h.gd, h.dp, h.sz, h.inL, o, o1, o2, o3, by rw [fill_bound hb hn, fill_bound hb hn, o4]⟩
theorem MeF.bound {most : Nat} {L : List Int} {fl fl' : Fill} {n : Int} {v : Tm} (hb : Tm.bound fl n v most = some fl') (hf : MeF most L fl) (hn : fl.val n = none) (hv : ∀ m ∈ v.flat, fl.val m = none) (ho : n ∉ v.flat) (hc : Gd v) (hnL : n ∈ L) (hvL : ∀ m ∈ v.flat, m ∈ L) : MeF most L fl' ∧ fl'.length = fl.length + 1 := by
  refine ⟨⟨bound_idm hb hf.idm hn hv ho, fun p hp => ?_⟩, by rw [bound_eq hb, List.length_cons, List.length_map]⟩
  have hmo := bound_most hb p hp
  rw [bound_eq hb] at hp
  rcases List.mem_cons.mp hp with rfl | hp
  · exact ⟨hc, hmo, hnL, hvL⟩
  · obtain ⟨q, hq, rfl⟩ := List.mem_map.mp hp
    exact ⟨(hf.val q hq).1.fill fun p hp => by rw [List.mem_singleton.mp hp]; exact hc, hmo, (hf.val q hq).2.2.1, fill_flat (fun p hp => by rw [List.mem_singleton.mp hp]; exact hvL) (hf.val q hq).2.2.2⟩
/-- how long a stack may be -/
def StB (B U : Nat) (fl : Fill) : List (Tm × Tm) → Prop
  | [] => True
  | p :: st => st.length + 4 * ((U - fl.length) * 201 + max (fill fl p.1).depth (fill fl p.2).depth) ≤ B ∧ StB B U fl st
theorem StB.len {B U : Nat} {fl : Fill} {st : List (Tm × Tm)} (h : StB B U fl st) : st.length ≤ B + 1 := by
  cases st with
  | nil => exact Nat.zero_le _
  | cons p st => have := h.1; rw [List.length_cons]; omega
theorem StB.bind {B U : Nat} {fl fl' : Fill} (hl : fl'.length = fl.length + 1) (hU : fl'.length ≤ U) : ∀ {st : List (Tm × Tm)}, (∀ p ∈ st, (fill fl' p.1).depth ≤ 200 ∧ (fill fl' p.2).depth ≤ 200) → StB B U fl st → StB B U fl' st
  | [], _, _ => trivial
  | p :: st, hd, h => by
    have h1 := hd p List.mem_cons_self
    have h2 := h.1
    refine ⟨?_, StB.bind hl hU (fun q hq => hd q (List.mem_cons_of_mem _ hq)) h.2⟩
    have : U - fl.length = U - fl'.length + 1 := by omega
    rw [this, Nat.add_mul] at h2
    have := Nat.max_le.mpr h1
    omega
theorem StB.app {B U e : Nat} {fl : Fill} {st : List (Tm × Tm)} (h : StB B U fl st) : ∀ {zs : List (Tm × Tm)}, zs.length ≤ 4 → (∀ p ∈ zs, (fill fl p.1).depth ≤ e ∧ (fill fl p.2).depth ≤ e) → st.length + 4 * ((U - fl.length) * 201 + (e + 1)) ≤ B → StB B U fl (zs ++ st)
  | [], _, _, _ => h
  | p :: zs, hl, hd, hB => by
    rw [List.length_cons] at hl
    refine ⟨?_, StB.app h (by omega) (fun q hq => hd q (List.mem_cons_of_mem _ hq)) hB⟩
    have := Nat.max_le.mpr (hd p List.mem_cons_self)
    show (zs ++ st).length + _ ≤ _
    rw [List.length_append]
    omega
end Tm
end Rw
namespace Rw
open PySem L2
/-! rules, steps, wearing down -/
structure Rl where
  num : Nat
  l : Tm
  r : Tm
structure Sp where
  num : Nat
  place : List Nat
  forth : Bool
  after : Tm
/-- the first rule that fits -/
def fitR : List Rl → Tm → Option (Rl × Fill)
  | [], _ => none
  | r :: rs, t => match Tm.fit r.l t with
    | some fl => some (r, fl)
    | none => fitR rs t
def stepAt (rs : List Rl) (t : Tm) : List (List Nat) → Option Sp
  | [] => none
  | p :: ps => match Tm.part t p with
    | none => stepAt rs t ps
    | some u => match fitR rs u with
      | some (r, fl) => some ⟨r.num, p, true, Tm.put t p (Tm.fill fl r.r)⟩
      | none => stepAt rs t ps
def fstep (rs : List Rl) (t : Tm) : Option Sp := stepAt rs t t.places
/-- the chain of wearing down, none where it wants more than k steps -/
def wornF (rs : List Rl) : Nat → Tm → Option (List Sp)
  | 0, t => match fstep rs t with
    | none => some []
    | some _ => none
  | k + 1, t => match fstep rs t with
    | none => some []
    | some s => (wornF rs k s.after).map (s :: ·)
def behindF : Tm → List Sp → Tm
  | t, [] => t
  | _, s :: c => behindF s.after c
/-- a step at a place by two sides -/
def StepAt (l r : Tm) (s t : Tm) (p : List Nat) : Prop := ∃ g : Int → Tm, Tm.part s p = some (Tm.sb g l) ∧ t = Tm.put s p (Tm.sb g r)
def Stp (rs : List Rl) (s t : Tm) : Prop := ∃ r ∈ rs, ∃ p, StepAt r.l r.r s t p
inductive Sts (rs : List Rl) : Tm → Tm → Prop
  | refl (t : Tm) : Sts rs t t
  | head {s t u : Tm} : Stp rs s t → Sts rs t u → Sts rs s u
def Irr (rs : List Rl) (t : Tm) : Prop := ∀ u, ¬ Stp rs t u
/-- a rule's right side has no blanks of its own -/
def Rl.Ok (r : Rl) : Prop := ∀ n, n ∈ r.r.flat → n ∈ r.l.flat
theorem Sts.trans {rs : List Rl} {s t u : Tm} (h : Sts rs s t) (k : Sts rs t u) : Sts rs s u := by
  induction h with
  | refl => exact k
  | head a _ ih => exact .head a (ih k)
theorem Sts.one {rs : List Rl} {s t : Tm} (h : Stp rs s t) : Sts rs s t := .head h (.refl _)
theorem fitR_some {rs : List Rl} {t : Tm} {r : Rl} {fl : Fill} (h : fitR rs t = some (r, fl)) : r ∈ rs ∧ Tm.fit r.l t = some fl := by
  induction rs with
  | nil => cases h
  | cons a rs ih =>
    rw [fitR] at h
    cases e : Tm.fit a.l t with
    | some fl' => rw [e] at h; cases h; exact ⟨List.mem_cons_self, e⟩
    | none => rw [e] at h; obtain ⟨h1, h2⟩ := ih h; exact ⟨List.mem_cons_of_mem _ h1, h2⟩
theorem fitR_none {rs : List Rl} {t : Tm} : fitR rs t = none ↔ ∀ r ∈ rs, Tm.fit r.l t = none := by
  induction rs with
  | nil => simp [fitR]
  | cons a rs ih =>
    rw [fitR]
    cases e : Tm.fit a.l t with
    | some fl' => simp [e]
    | none => simp [e, ih]
theorem stepAt_some {rs : List Rl} {t : Tm} {ps : List (List Nat)} {s : Sp} (h : stepAt rs t ps = some s) : ∃ p u r fl, p ∈ ps ∧ Tm.part t p = some u ∧ fitR rs u = some (r, fl) ∧ s = ⟨r.num, p, true, Tm.put t p (Tm.fill fl r.r)⟩ := by
  induction ps with
  | nil => cases h
  | cons p ps ih =>
    rw [stepAt] at h
    cases e : Tm.part t p with
    | none => rw [e] at h; obtain ⟨q, u, r, fl, h1, h2⟩ := ih h; exact ⟨q, u, r, fl, List.mem_cons_of_mem _ h1, h2⟩
    | some u =>
      rw [e] at h
      cases e2 : fitR rs u with
      | none => simp only [e2] at h; obtain ⟨q, u, r, fl, h1, h2⟩ := ih h; exact ⟨q, u, r, fl, List.mem_cons_of_mem _ h1, h2⟩
      | some q => obtain ⟨r, fl⟩ := q; simp only [e2] at h; cases h; exact ⟨p, u, r, fl, List.mem_cons_self, e, e2, rfl⟩
theorem stepAt_none {rs : List Rl} {t : Tm} {ps : List (List Nat)} : stepAt rs t ps = none ↔ ∀ p ∈ ps, ∀ u, Tm.part t p = some u → fitR rs u = none := by
  induction ps with
  | nil => simp [stepAt]
  | cons p ps ih =>
    rw [stepAt]
    cases e : Tm.part t p with
    | none => simp [ih, e]
    | some u =>
      cases e2 : fitR rs u with
      | none => simp [ih, e, e2]
      | some q => simp [e, e2]
theorem part_place {t u : Tm} {p : List Nat} (h : Tm.part t p = some u) : p ∈ t.places := Tm.mem_places.mpr (by rw [h]; rfl)
theorem fstep_none {rs : List Rl} {t : Tm} : fstep rs t = none ↔ Irr rs t := by
  unfold fstep
  rw [stepAt_none]
  constructor
  · rintro h v ⟨r, hr, p, g, h1, rfl⟩
    have := fitR_none.mp (h p (part_place h1) _ h1) r hr
    exact Tm.fit_none.mp this ⟨g, rfl⟩
  · intro h p hp u hu
    refine fitR_none.mpr fun r hr => Tm.fit_none.mpr ?_
    rintro ⟨g, hg⟩
    exact h _ ⟨r, hr, p, g, by rw [hu, hg], rfl⟩
theorem fill_of_fit {r : Rl} {u : Tm} {fl : Fill} (h : Tm.fit r.l u = some fl) : Tm.fill fl r.r = Tm.sb fl.fn r.r := Tm.fill_fn fl r.r
theorem fstep_some {rs : List Rl} {t : Tm} {s : Sp} (h : fstep rs t = some s) : ∃ r ∈ rs, s.num = r.num ∧ s.forth = true ∧ StepAt r.l r.r t s.after s.place := by
  obtain ⟨p, u, r, fl, h1, h2, h3, rfl⟩ := stepAt_some h
  obtain ⟨h4, h5⟩ := fitR_some h3
  exact ⟨r, h4, rfl, rfl, fl.fn, by rw [h2, Tm.fit_sb h5], by rw [Tm.fill_fn]⟩
theorem fstep_stp {rs : List Rl} {t : Tm} {s : Sp} (h : fstep rs t = some s) : Stp rs t s.after := by
  obtain ⟨r, hr, _, _, hs⟩ := fstep_some h
  exact ⟨r, hr, s.place, hs⟩
theorem wornF_end {rs : List Rl} : ∀ {k : Nat} {t : Tm} {c : List Sp}, wornF rs k t = some c → Sts rs t (behindF t c) ∧ Irr rs (behindF t c)
  | 0, t, c, h => by
    rw [wornF] at h
    cases e : fstep rs t with
    | none => rw [e] at h; cases h; exact ⟨.refl _, fstep_none.mp e⟩
    | some s => rw [e] at h; cases h
  | k + 1, t, c, h => by
    rw [wornF] at h
    cases e : fstep rs t with
    | none => rw [e] at h; cases h; exact ⟨.refl _, fstep_none.mp e⟩
    | some s =>
      rw [e] at h
      simp only [Option.map_eq_some_iff] at h
      obtain ⟨c', h1, rfl⟩ := h
      obtain ⟨h2, h3⟩ := wornF_end h1
      exact ⟨.head (fstep_stp e) h2, h3⟩
theorem wornF_len {rs : List Rl} : ∀ {k : Nat} {t : Tm} {c : List Sp}, wornF rs k t = some c → c.length ≤ k
  | 0, t, c, h => by
    rw [wornF] at h
    cases e : fstep rs t with
    | none => rw [e] at h; cases h; exact Nat.le_refl _
    | some s => rw [e] at h; cases h
  | k + 1, t, c, h => by
    rw [wornF] at h
    cases e : fstep rs t with
    | none => rw [e] at h; cases h; exact Nat.zero_le _
    | some s =>
      rw [e] at h
      simp only [Option.map_eq_some_iff] at h
      obtain ⟨c', h1, rfl⟩ := h
      have := wornF_len h1
      rw [List.length_cons]; omega
/-! the order has no endless way down -/
abbrev anyB : Int → Prop := fun _ => True
def Low (S : List Sg) (a b : Tm) : Prop := Tm.gt S b a = true ∧ TOk S anyB a
def goodL (S : List Sg) (ts : List Tm) : Prop := ∀ t ∈ ts, Acc (Low S) t ∧ TOk S anyB t
theorem lexInd {S : List Sg} : ∀ (n : Nat) (P : List Tm → Prop), (∀ ts, ts.length = n → goodL S ts → (∀ us, goodL S us → us.length = n → Tm.gtL S ts us = true → P us) → P ts) → ∀ ts, ts.length = n → goodL S ts → P ts := by
  intro n
  induction n with
  | zero =>
    intro P h ts hl hg
    refine h ts hl hg fun us _ _ hgt => ?_
    rw [List.length_eq_zero_iff.mp hl, Tm.gtL] at hgt
    cases hgt
  | succ n ih =>
    intro P h ts hl hg
    cases ts with
    | nil => simp at hl
    | cons t ts =>
      obtain ⟨ha, hk⟩ := hg t List.mem_cons_self
      have hl' : ts.length = n := by simpa using hl
      have hg' : goodL S ts := fun x hx => hg x (List.mem_cons_of_mem _ hx)
      clear hg hl
      induction ha generalizing ts with
      | intro t hat iht =>
        refine ih (fun ts => P (t :: ts)) ?_ ts hl' hg'
        intro us hul hug hrec
        refine h (t :: us) (by rw [List.length_cons, hul]) (fun x hx => ?_) ?_
        · rcases List.mem_cons.mp hx with rfl | hx
          · exact ⟨⟨_, hat⟩, hk⟩
          · exact hug x hx
        · intro vs hvg hvl hgt
          cases vs with
          | nil => rw [Tm.gtL] at hgt; cases hgt
          | cons v vs =>
            have hvg' : goodL S vs := fun x hx => hvg x (List.mem_cons_of_mem _ hx)
            have hvl' : vs.length = n := by simpa using hvl
            rw [Tm.gtL] at hgt
            by_cases e : t = v
            · subst e
              rw [if_pos rfl] at hgt
              exact hrec vs hvg' hvl' hgt
            · rw [if_neg e] at hgt
              exact iht v ⟨hgt, (hvg v List.mem_cons_self).2⟩ vs (hvg v List.mem_cons_self).2 hvl' hvg'
theorem TOk.wt_pos {S : List Sg} {B : Int → Prop} {t : Tm} (hn : (S.map Sg.name).Nodup) (hw : ∀ s ∈ S, 1 ≤ s.wt) (h : TOk S B t) : 1 ≤ t.wt S := Nat.le_trans (Tm.size_pos t) (h.size_wt hn hw)
theorem wtL_mem {S : List Sg} {t : Tm} {ts : List Tm} (h : t ∈ ts) : t.wt S ≤ Tm.wtL S ts := by
  induction ts with
  | nil => cases h
  | cons a ts ih =>
    rw [Tm.wtL]
    rcases List.mem_cons.mp h with rfl | h
    · omega
    · have := ih h; omega
theorem low_acc {S : List Sg} (hn : (S.map Sg.name).Nodup) (hw : ∀ s ∈ S, 1 ≤ s.wt) : ∀ (w : Nat) (t : Tm), TOk S anyB t → t.wt S ≤ w → Acc (Low S) t := by
  intro w
  induction w with
  | zero => intro t ht hle; have := ht.wt_pos hn hw; omega
  | succ w ih =>
    intro t ht hle
    by_cases hlt : t.wt S ≤ w
    · exact ih t ht hlt
    have hw1 : t.wt S = w + 1 := by omega
    clear hle hlt
    cases ht with
    | bl h =>
      refine ⟨_, fun a ⟨hg, ha⟩ => ?_⟩
      rw [Tm.wt] at hw1
      obtain ⟨_, _, h1 | ⟨_, h1⟩⟩ := Tm.gt_iff.mp hg
      · exact ih a ha (by rw [Tm.wt] at h1; omega)
      · obtain ⟨_, _, _, _, e, _⟩ := Tm.gtI_iff.mp h1; cases e
    | @fn s ts hs hl hts =>
      have key : ∀ (k : Nat) (s : Sg), s ∈ S → rkOf S s.name = k → ∀ ts, ts.length = s.ar → (∀ t, t ∈ ts → TOk S anyB t) → (Tm.fn s.name ts).wt S = w + 1 → Acc (Low S) (.fn s.name ts) := by
        intro k
        induction k using Nat.strongRecOn with
        | ind k ihk =>
          intro s hs hk ts hl hts hwt
          have hws := wOf_some hn hs
          have hw1 := hw s hs
          have hgood : ∀ us : List Tm, (∀ t, t ∈ us → TOk S anyB t) → (Tm.fn s.name us).wt S = w + 1 → goodL S us := by
            intro us hus huw u hu
            rw [Tm.wt, hws] at huw
            have := wtL_mem (S := S) hu
            exact ⟨ih u (hus u hu) (by omega), hus u hu⟩
          have hg0 := hgood ts hts hwt
          revert hwt
          refine lexInd (S := S) s.ar (fun ts => (Tm.fn s.name ts).wt S = w + 1 → Acc (Low S) (.fn s.name ts)) ?_ ts hl hg0
          intro us hul hug hrec huw
          refine ⟨_, fun a ⟨hg, ha⟩ => ?_⟩
          obtain ⟨_, _, h1 | ⟨h1, h2⟩⟩ := Tm.gt_iff.mp hg
          · exact ih a ha (by omega)
          · obtain ⟨_, _, g, vs, e, rfl, h3⟩ := Tm.gtI_iff.mp h2
            cases e
            obtain ⟨s2, hs2, rfl, hl2, ht2⟩ := ha.fn_inv
            rcases h3 with ⟨h3, h4⟩ | ⟨h3, h4⟩
            · exact ihk (rkOf S s2.name) (by omega) s2 hs2 rfl vs hl2 ht2 (by omega)
            · have hss : s = s2 := by
                have e1 := sgOf_some hn hs
                have e2 := sgOf_some hn hs2
                rw [h3, e2] at e1
                exact (Option.some.inj e1).symm
              subst hss
              exact hrec vs (hgood vs ht2 (by omega)) hl2 h4 (by omega)
      exact key _ s hs rfl ts hl hts hw1
/-! steps in contexts -/
theorem TOk.sb {S : List Sg} {B B' : Int → Prop} {g : Int → Tm} {t : Tm} (h : TOk S B t) (hg : ∀ n, n ∈ t.flat → TOk S B' (g n)) : TOk S B' (Tm.sb g t) := by
  induction h with
  | @bl n _ => rw [Tm.sb]; exact hg n (by rw [Tm.flat]; exact List.mem_singleton.mpr rfl)
  | @fn s ts hs hl _ ih =>
    rw [Tm.sb, Tm.sbL_map]
    refine .fn hs (by rw [List.length_map]; exact hl) fun u hu => ?_
    obtain ⟨t, ht, rfl⟩ := List.mem_map.mp hu
    exact ih t ht fun n hn => hg n (by rw [Tm.flat]; exact Tm.mem_flatL.mpr ⟨t, ht, hn⟩)
theorem TOk.sb_inv {S : List Sg} {B : Int → Prop} {g : Int → Tm} : ∀ t : Tm, TOk S B (Tm.sb g t) → ∀ n, n ∈ t.flat → TOk S B (g n) := by
  intro t
  induction t using Tm.ind with
  | hb m => intro h n hn; rw [Tm.flat, List.mem_singleton] at hn; subst hn; rw [Tm.sb] at h; exact h
  | hf f ts ih =>
    intro h n hn
    rw [Tm.sb, Tm.sbL_map] at h
    obtain ⟨s, _, _, _, hts⟩ := h.fn_inv
    rw [Tm.flat] at hn
    obtain ⟨t, ht, hn⟩ := Tm.mem_flatL.mp hn
    exact ih t ht (hts _ (List.mem_map.mpr ⟨t, ht, rfl⟩)) n hn
theorem TOk.set {S : List Sg} {B : Int → Prop} {f : Str} {ts : List Tm} {i : Nat} {u : Tm} (h : TOk S B (.fn f ts)) (hu : TOk S B u) : TOk S B (.fn f (ts.set i u)) := by
  obtain ⟨s, hs, rfl, hl, hts⟩ := h.fn_inv
  refine .fn hs (by rw [List.length_set]; exact hl) fun x hx => ?_
  rcases List.mem_or_eq_of_mem_set hx with hx | rfl
  · exact hts x hx
  · exact hu
theorem TOk.arg {S : List Sg} {B : Int → Prop} {f : Str} {ts : List Tm} {i : Nat} {u : Tm} (h : TOk S B (.fn f ts)) (hu : ts[i]? = some u) : TOk S B u := by
  obtain ⟨s, hs, rfl, hl, hts⟩ := h.fn_inv
  exact hts u (List.mem_of_getElem? hu)
inductive RwS (l r : Tm) : Tm → Tm → Prop
  | root (g : Int → Tm) : RwS l r (Tm.sb g l) (Tm.sb g r)
  | arg {f : Str} {ts : List Tm} {i : Nat} {t t' : Tm} : ts[i]? = some t → RwS l r t t' → RwS l r (.fn f ts) (.fn f (ts.set i t'))
theorem StepAt.rws {l r : Tm} : ∀ (p : List Nat) {s t : Tm}, StepAt l r s t p → RwS l r s t := by
  intro p
  induction p with
  | nil =>
    rintro s t ⟨g, h1, rfl⟩
    have h1 : some s = some (Tm.sb g l) := by cases s <;> (rw [Tm.part] at h1; exact h1)
    cases h1
    have : ∀ x y : Tm, Tm.put x [] y = y := fun x y => by cases x <;> rw [Tm.put]
    rw [this]
    exact .root g
  | cons k p ih =>
    rintro s t ⟨g, h1, rfl⟩
    cases s with
    | bl n => rw [Tm.part] at h1; cases h1
    | fn f ts =>
      rw [Tm.part] at h1
      split at h1
      · cases h1
      · cases e : ts[k - 1]? with
        | none => rw [e] at h1; cases h1
        | some u =>
          rw [e] at h1
          rw [Tm.put, e]
          exact .arg e (ih ⟨g, h1, rfl⟩)
theorem RwS.stepAt {l r s t : Tm} (h : RwS l r s t) : ∃ p, StepAt l r s t p := by
  induction h with
  | root g =>
    refine ⟨[], g, ?_, ?_⟩
    · generalize Tm.sb g l = x; cases x <;> rw [Tm.part]
    · generalize Tm.sb g l = x; cases x <;> rw [Tm.put]
  | @arg f ts i t t' hi _ ih =>
    obtain ⟨p, g, h1, rfl⟩ := ih
    refine ⟨(i + 1) :: p, g, ?_, ?_⟩
    · rw [Tm.part, if_neg (Nat.succ_ne_zero i), Nat.add_sub_cancel, hi]; exact h1
    · rw [Tm.put, Nat.add_sub_cancel, hi]
theorem RwS.sb {l r s t : Tm} (h : Int → Tm) (k : RwS l r s t) : RwS l r (Tm.sb h s) (Tm.sb h t) := by
  induction k with
  | root g => rw [Tm.sb_sb, Tm.sb_sb]; exact .root _
  | @arg f ts i t t' hi _ ih =>
    rw [Tm.sb, Tm.sb, Tm.sbL_map, Tm.sbL_map, List.map_set]
    exact .arg (by rw [List.getElem?_map, hi]; rfl) ih
theorem RwS.swap {l r s t : Tm} (k : RwS l r s t) : RwS r l t s := by
  induction k with
  | root g => exact .root g
  | @arg f ts i t t' hi _ ih =>
    have hlt := (List.getElem?_eq_some_iff.mp hi).1
    have := RwS.arg (l := r) (r := l) (f := f) (ts := ts.set i t') (i := i) (t := t') (t' := t) (by rw [List.getElem?_set_self hlt]) ih
    rw [List.set_set] at this
    have e : ts.set i t = ts := by
      obtain ⟨_, e⟩ := List.getElem?_eq_some_iff.mp hi
      rw [← e]; exact List.set_getElem_self hlt
    rw [e] at this
    exact this
theorem RwS.gt {S : List Sg} (hn : (S.map Sg.name).Nodup) (hw : ∀ s ∈ S, 1 ≤ s.wt) {B : Int → Prop} {l r s t : Tm} (hlr : Tm.gt S l r = true) (hs : TOk S B s) (k : RwS l r s t) : Tm.gt S s t = true := by
  induction k with
  | root g =>
    have hsub : ∀ n, n ∈ r.flat → n ∈ l.flat := fun n hn => by
      obtain ⟨_, hc, _⟩ := Tm.gt_iff.mp hlr
      have h1 := Tm.cov_iff.mp hc n
      have h2 := List.count_pos_iff.mpr hn
      exact List.count_pos_iff.mp (by omega)
    let g' : Int → Tm := fun n => if n ∈ l.flat then g n else .bl n
    have e1 : Tm.sb g l = Tm.sb g' l := Tm.sb_congr l fun n hn => by show g n = if _ then _ else _; rw [if_pos hn]
    have e2 : Tm.sb g r = Tm.sb g' r := Tm.sb_congr r fun n hn => by show g n = if _ then _ else _; rw [if_pos (hsub n hn)]
    rw [e1, e2]
    refine Tm.gt_sb (fun n => ?_) l r hlr
    show 1 ≤ (if n ∈ l.flat then g n else .bl n).wt S
    by_cases z : n ∈ l.flat
    · rw [if_pos z]; exact (TOk.sb_inv l hs n z).wt_pos hn hw
    · rw [if_neg z, Tm.wt]; exact Nat.le_refl _
  | @arg f ts i t t' hi _ ih =>
    obtain ⟨hlt, e⟩ := List.getElem?_eq_some_iff.mp hi
    have := Tm.gt_fn (S := S) (f := f) hlt (ih (hs.arg hi))
    have e2 : ts.set i t = ts := by rw [← e]; exact List.set_getElem_self hlt
    rw [e2] at this
    exact this
theorem RwS.ok {S : List Sg} {B : Int → Prop} {l r s t : Tm} (hr : TOk S anyB r) (hsub : ∀ n, n ∈ r.flat → n ∈ l.flat) (hs : TOk S B s) (k : RwS l r s t) : TOk S B t := by
  induction k with
  | root g => exact hr.sb fun n hn => TOk.sb_inv l hs n (hsub n hn)
  | @arg f ts i t t' hi _ ih => exact hs.set (ih (hs.arg hi))
theorem gt_sub {S : List Sg} {l r : Tm} (h : Tm.gt S l r = true) : ∀ n, n ∈ r.flat → n ∈ l.flat := fun n hn => by
  obtain ⟨_, hc, _⟩ := Tm.gt_iff.mp h
  have h1 := Tm.cov_iff.mp hc n
  have h2 := List.count_pos_iff.mpr hn
  exact List.count_pos_iff.mp (by omega)
/-! chains below a term -/
/-- terms smaller than top, a step of some pair between neighbours -/
inductive Conn (S : List Sg) (P : Tm → Tm → Prop) (top : Tm) : Tm → Tm → Prop
  | refl {t : Tm} : Tm.gt S top t = true → TOk S anyB t → Conn S P top t t
  | step {s t u l r : Tm} : Tm.gt S top s = true → TOk S anyB s → (P l r ∨ P r l) → RwS l r s t → Conn S P top t u → Conn S P top s u
section
variable {S : List Sg} {P : Tm → Tm → Prop}
theorem Conn.lt {top s t : Tm} (h : Conn S P top s t) : (Tm.gt S top s = true ∧ TOk S anyB s) ∧ Tm.gt S top t = true ∧ TOk S anyB t := by
  induction h with
  | refl h k => exact ⟨⟨h, k⟩, h, k⟩
  | step h k _ _ _ ih => exact ⟨⟨h, k⟩, ih.2⟩
theorem Conn.trans {top s t u : Tm} (h : Conn S P top s t) (k : Conn S P top t u) : Conn S P top s u := by
  induction h with
  | refl _ _ => exact k
  | step h1 h0 h2 h3 _ ih => exact .step h1 h0 h2 h3 (ih k)
theorem Conn.symm {top s t : Tm} (h : Conn S P top s t) : Conn S P top t s := by
  induction h with
  | refl h k => exact .refl h k
  | step h1 h0 h2 h3 h4 ih => exact ih.trans (.step h4.lt.1.1 h4.lt.1.2 h2.symm h3.swap (.refl h1 h0))
theorem Conn.mono {P' : Tm → Tm → Prop} (hP : ∀ l r, P l r → P' l r) {top s t : Tm} (h : Conn S P top s t) : Conn S P' top s t := by
  induction h with
  | refl h k => exact .refl h k
  | step h1 h0 h2 h3 _ ih => exact .step h1 h0 (h2.imp (hP _ _) (hP _ _)) h3 ih
theorem Conn.low {top top' s t : Tm} (hlt : Tm.gt S top' top = true) (h : Conn S P top s t) : Conn S P top' s t := by
  induction h with
  | refl h k => exact .refl (Tm.gt_trans _ _ _ hlt h) k
  | step h1 h0 h2 h3 _ ih => exact .step (Tm.gt_trans _ _ _ hlt h1) h0 h2 h3 ih
theorem Conn.arg {f : Str} {ts : List Tm} {i : Nat} {top s t : Tm} (hi : i < ts.length) (ho : TOk S anyB (.fn f ts)) (h : Conn S P top s t) : Conn S P (.fn f (ts.set i top)) (.fn f (ts.set i s)) (.fn f (ts.set i t)) := by
  induction h with
  | refl h k => exact .refl (Tm.gt_fn hi h) (ho.set k)
  | @step s t u l r h1 h0 h2 h3 _ ih =>
    refine .step (Tm.gt_fn hi h1) (ho.set h0) h2 ?_ ih
    have := RwS.arg (f := f) (ts := ts.set i s) (i := i) (t := s) (t' := t) (by rw [List.getElem?_set_self hi]) h3
    rw [List.set_set] at this
    exact this
theorem Conn.sb (hn : (S.map Sg.name).Nodup) (hw : ∀ s ∈ S, 1 ≤ s.wt) {g : Int → Tm} (hg : ∀ n, TOk S anyB (g n)) {top s t : Tm} (h : Conn S P top s t) : Conn S P (Tm.sb g top) (Tm.sb g s) (Tm.sb g t) := by
  have h1 : ∀ n, 1 ≤ (g n).wt S := fun n => (hg n).wt_pos hn hw
  induction h with
  | refl h k => exact .refl (Tm.gt_sb h1 _ _ h) (k.sb fun n _ => hg n)
  | step h2 h0 h3 h4 _ ih => exact .step (Tm.gt_sb h1 _ _ h2) (h0.sb fun n _ => hg n) h3 (h4.sb g) ih
end
/-! peaks -/
inductive Rws (R : Tm → Tm → Prop) : Tm → Tm → Prop
  | refl (t : Tm) : Rws R t t
  | head {s t u l r : Tm} : R l r → RwS l r s t → Rws R t u → Rws R s u
section
variable {R : Tm → Tm → Prop}
theorem Rws.trans {s t u : Tm} (h : Rws R s t) (k : Rws R t u) : Rws R s u := by
  induction h with
  | refl => exact k
  | head h1 h2 _ ih => exact .head h1 h2 (ih k)
theorem Rws.one {s t l r : Tm} (h : R l r) (k : RwS l r s t) : Rws R s t := .head h k (.refl _)
theorem Rws.arg {f : Str} {ts : List Tm} {i : Nat} {s t : Tm} (hi : i < ts.length) (h : Rws R s t) : Rws R (.fn f (ts.set i s)) (.fn f (ts.set i t)) := by
  induction h with
  | refl => exact .refl _
  | @head s t u l r h1 h2 _ ih =>
    refine .head h1 ?_ ih
    have := RwS.arg (f := f) (ts := ts.set i s) (i := i) (t := s) (t' := t) (by rw [List.getElem?_set_self hi]) h2
    rw [List.set_set] at this
    exact this
theorem Rws.args {f : Str} : ∀ (as bs pre : List Tm), as.length = bs.length → (∀ (k : Nat) a b, as[k]? = some a → bs[k]? = some b → Rws R a b) → Rws R (.fn f (pre ++ as)) (.fn f (pre ++ bs)) := by
  intro as
  induction as with
  | nil =>
    intro bs pre hl _
    cases bs with
    | nil => exact .refl _
    | cons b bs => simp at hl
  | cons a as ih =>
    intro bs pre hl h
    cases bs with
    | nil => simp at hl
    | cons b bs =>
      have h1 := Rws.arg (R := R) (f := f) (ts := pre ++ a :: as) (i := pre.length) (s := a) (t := b) (by rw [List.length_append, List.length_cons]; omega) (h 0 a b rfl rfl)
      rw [List.set_append_right _ _ (Nat.le_refl _), List.set_append_right _ _ (Nat.le_refl _), Nat.sub_self, List.set_cons_zero, List.set_cons_zero] at h1
      have h2 := ih bs (pre ++ [b]) (by simpa using hl) (fun k x y hx hy => h (k + 1) x y (by simpa using hx) (by simpa using hy))
      rw [List.append_assoc, List.append_assoc] at h2
      exact h1.trans h2
theorem Rws.ok {S : List Sg} {B : Int → Prop} (hR : ∀ l r, R l r → TOk S anyB r ∧ ∀ n, n ∈ r.flat → n ∈ l.flat) {s t : Tm} (hs : TOk S B s) (h : Rws R s t) : TOk S B t := by
  induction h with
  | refl => exact hs
  | head h1 h2 _ ih => exact ih (h2.ok (hR _ _ h1).1 (hR _ _ h1).2 hs)
theorem Rws.sb (g : Int → Tm) {s t : Tm} (h : Rws R s t) : Rws R (Tm.sb g s) (Tm.sb g t) := by
  induction h with
  | refl => exact .refl _
  | head h1 h2 _ ih => exact .head h1 (h2.sb g) ih
/-- every standing of a blank rewritten -/
theorem Rws.occ {g g' : Int → Tm} (h : ∀ n, Rws R (g n) (g' n)) : ∀ t : Tm, Rws R (Tm.sb g t) (Tm.sb g' t) := by
  intro t
  induction t using Tm.ind with
  | hb n => rw [Tm.sb, Tm.sb]; exact h n
  | hf f ts ih =>
    rw [Tm.sb, Tm.sb, Tm.sbL_map, Tm.sbL_map]
    have := Rws.args (R := R) (f := f) (ts.map (Tm.sb g)) (ts.map (Tm.sb g')) [] (by rw [List.length_map, List.length_map]) fun k a b ha hb => by
      rw [List.getElem?_map] at ha hb
      cases e : ts[k]? with
      | none => rw [e] at ha; cases ha
      | some t =>
        rw [e] at ha hb
        cases ha; cases hb
        exact ih t (List.mem_of_getElem? e)
    exact this
def upd1 (g : Int → Tm) (n : Int) (y : Tm) : Int → Tm := fun m => if n = m then y else g m
theorem occ1 {g : Int → Tm} {n : Int} {y : Tm} (h : Rws R (g n) y) (t : Tm) : Rws R (Tm.sb g t) (Tm.sb (upd1 g n y) t) :=
  Rws.occ (fun m => by
    unfold upd1
    by_cases e : n = m
    · subst e; rw [if_pos rfl]; exact h
    · rw [if_neg e]; exact .refl _) t
theorem put_nil (x y : Tm) : Tm.put x [] y = y := by cases x <;> rw [Tm.put]
theorem part_nil (x : Tm) : Tm.part x [] = some x := by cases x <;> rw [Tm.part]
/-- a step within an instance: at a sign of the pattern, or within a blank's value -/
theorem step_in {g : Int → Tm} {l2 r2 : Tm} (hr : R l2 r2) : ∀ (l t : Tm), RwS l2 r2 (Tm.sb g l) t →
    (∃ p l' g2, Tm.part l p = some l' ∧ (∀ n, l' ≠ .bl n) ∧ Tm.sb g l' = Tm.sb g2 l2 ∧ t = Tm.put (Tm.sb g l) p (Tm.sb g2 r2)) ∨
    ∃ n y, n ∈ l.flat ∧ RwS l2 r2 (g n) y ∧ Rws R t (Tm.sb (upd1 g n y) l) := by
  intro l
  induction l using Tm.ind with
  | hb n =>
    intro t h
    rw [Tm.sb] at h
    refine .inr ⟨n, t, by rw [Tm.flat]; exact List.mem_singleton.mpr rfl, h, ?_⟩
    rw [Tm.sb]; unfold upd1; rw [if_pos rfl]; exact .refl _
  | hf f ts ih =>
    intro t h
    generalize hx : Tm.sb g (.fn f ts) = x at h
    cases h with
    | root g2 => exact .inl ⟨[], .fn f ts, g2, part_nil _, (fun _ z => by cases z), hx, by rw [put_nil]⟩
    | @arg f' us i u u' hi hu =>
      rw [Tm.sb] at hx
      cases hx
      rw [Tm.sbL_map, List.getElem?_map] at hi
      cases e : ts[i]? with
      | none => rw [e] at hi; cases hi
      | some ti =>
        rw [e] at hi
        cases hi
        have hlt := (List.getElem?_eq_some_iff.mp e).1
        rcases ih ti (List.mem_of_getElem? e) u' hu with ⟨p, l', g2, h1, h2, h3, h4⟩ | ⟨n, y, h1, h2, h3⟩
        · refine .inl ⟨(i + 1) :: p, l', g2, ?_, h2, h3, ?_⟩
          · rw [Tm.part, if_neg (Nat.succ_ne_zero i), Nat.add_sub_cancel, e]; exact h1
          · rw [Tm.put, Nat.add_sub_cancel, Tm.sbL_map, List.getElem?_map, e]
            simp only [Option.map_some]
            rw [h4]
        · refine .inr ⟨n, y, by rw [Tm.flat]; exact Tm.mem_flatL.mpr ⟨ti, List.mem_of_getElem? e, h1⟩, h2, ?_⟩
          rw [Tm.sb, Tm.sbL_map, Tm.sbL_map]
          have := Rws.args (R := R) (f := f) ((ts.map (Tm.sb g)).set i u') (ts.map (Tm.sb (upd1 g n y))) [] (by rw [List.length_set, List.length_map, List.length_map]) fun k a b ha hb => by
            rw [List.getElem?_map] at hb
            cases ek : ts[k]? with
            | none => rw [ek] at hb; cases hb
            | some tk =>
              rw [ek] at hb
              cases hb
              by_cases hik : i = k
              · subst hik
                rw [e] at ek; cases ek
                rw [List.getElem?_set_self (by rw [List.length_map]; exact hlt)] at ha
                cases ha
                exact h3
              · rw [List.getElem?_set_ne hik, List.getElem?_map, ek] at ha
                cases ha
                exact occ1 (Rws.one hr h2) tk
          exact this
end
/-- what a rule is -/
def RuleOk (S : List Sg) (R : Tm → Tm → Prop) : Prop := ∀ l r, R l r → Tm.gt S l r = true ∧ TOk S anyB l ∧ TOk S anyB r
/-- every overlap is connected below its top -/
def Overl (S : List Sg) (R P : Tm → Tm → Prop) : Prop := ∀ l1 r1 l2 r2, R l1 r1 → R l2 r2 → ∀ p l', Tm.part l1 p = some l' → (∀ n, l' ≠ .bl n) → ∀ g1 g2, Tm.sb g1 l' = Tm.sb g2 l2 → TOk S anyB (Tm.sb g1 l1) → Conn S P (Tm.sb g1 l1) (Tm.sb g1 r1) (Tm.put (Tm.sb g1 l1) p (Tm.sb g2 r2))
section
variable {S : List Sg} {R P : Tm → Tm → Prop}
theorem RuleOk.rws (hR : RuleOk S R) : ∀ l r, R l r → TOk S anyB r ∧ ∀ n, n ∈ r.flat → n ∈ l.flat := fun l r h => ⟨(hR l r h).2.2, gt_sub (hR l r h).1⟩
theorem Conn.down (hn : (S.map Sg.name).Nodup) (hw : ∀ s ∈ S, 1 ≤ s.wt) (hR : RuleOk S R) (hRP : ∀ l r, R l r → P l r) {top s t : Tm} (hs : TOk S anyB s) (hlt : Tm.gt S top s = true) (h : Rws R s t) : Conn S P top s t := by
  induction h with
  | refl => exact .refl hlt hs
  | @head s t u l r h1 h2 _ ih =>
    have hg := h2.gt hn hw (hR l r h1).1 hs
    exact .step hlt hs (.inl (hRP _ _ h1)) h2 (ih (h2.ok (hR l r h1).2.2 (gt_sub (hR l r h1).1) hs) (Tm.gt_trans _ _ _ hlt hg))
theorem set_same {ts : List Tm} {i : Nat} {t : Tm} (h : ts[i]? = some t) : ts.set i t = ts := by
  obtain ⟨hlt, e⟩ := List.getElem?_eq_some_iff.mp h
  rw [← e]; exact List.set_getElem_self hlt
/-- two steps from one term are connected below it -/
theorem peak (hn : (S.map Sg.name).Nodup) (hw : ∀ s ∈ S, 1 ≤ s.wt) (hR : RuleOk S R) (hRP : ∀ l r, R l r → P l r) (hO : Overl S R P) {l1 r1 l2 r2 : Tm} (h1 : R l1 r1) (h2 : R l2 r2) : ∀ (s t1 t2 : Tm), TOk S anyB s → RwS l1 r1 s t1 → RwS l2 r2 s t2 → Conn S P s t1 t2 := by
  have rootc : ∀ {l1 r1 l2 r2 : Tm}, R l1 r1 → R l2 r2 → ∀ (g : Int → Tm) (t2 : Tm), TOk S anyB (Tm.sb g l1) → RwS l2 r2 (Tm.sb g l1) t2 → Conn S P (Tm.sb g l1) (Tm.sb g r1) t2 := by
    intro l1 r1 l2 r2 h1 h2 g t2 hs k2
    have k1 : RwS l1 r1 (Tm.sb g l1) (Tm.sb g r1) := .root g
    have g1 := k1.gt hn hw (hR _ _ h1).1 hs
    have g2 := k2.gt hn hw (hR _ _ h2).1 hs
    have o1 := k1.ok (hR _ _ h1).2.2 (gt_sub (hR _ _ h1).1) hs
    have o2 := k2.ok (hR _ _ h2).2.2 (gt_sub (hR _ _ h2).1) hs
    rcases step_in h2 l1 t2 k2 with ⟨p, l', g2', e1, e2, e3, rfl⟩ | ⟨n, y, hn1, hy, hj⟩
    · exact hO _ _ _ _ h1 h2 p l' e1 e2 g g2' e3 hs
    · have d1 := Conn.down (P := P) hn hw hR hRP o1 g1 (occ1 (Rws.one h2 hy) r1)
      have d2 := Conn.down (P := P) hn hw hR hRP o2 g2 (hj.trans (Rws.one h1 (.root _)))
      exact d1.trans d2.symm
  intro s
  induction s using Tm.ind with
  | hb n =>
    intro t1 t2 hs k1 k2
    generalize hx : Tm.bl n = x at k1 k2 hs
    cases k1 with
    | root g => exact rootc h1 h2 g t2 hs k2
    | arg _ _ => cases hx
  | hf f ts ih =>
    intro t1 t2 hs k1 k2
    generalize hx : Tm.fn f ts = x at k1 k2 hs
    cases k1 with
    | root g => exact rootc h1 h2 g t2 hs k2
    | @arg f1 us i u u1 hi hu =>
      cases hx
      generalize hx2 : Tm.fn f ts = x at k2 hs
      cases k2 with
      | root g =>
        have := rootc h2 h1 g (.fn f (ts.set i u1)) hs (by rw [← hx2]; exact .arg hi hu)
        exact this.symm
      | @arg f2 vs j v v2 hj hv =>
        cases hx2
        obtain ⟨hli, ei⟩ := List.getElem?_eq_some_iff.mp hi
        obtain ⟨hlj, ej⟩ := List.getElem?_eq_some_iff.mp hj
        by_cases hij : i = j
        · subst hij
          rw [hi] at hj; cases hj
          have := (ih u (List.mem_of_getElem? hi) u1 v2 (hs.arg hi) hu hv).arg (f := f) (ts := ts) hli hs
          rw [set_same hi] at this
          exact this
        · have ku : RwS l1 r1 (.fn f ts) (.fn f (ts.set i u1)) := .arg hi hu
          have kv : RwS l2 r2 (.fn f ts) (.fn f (ts.set j v2)) := .arg hj hv
          have ku2 : RwS l2 r2 (.fn f (ts.set i u1)) (.fn f ((ts.set i u1).set j v2)) := .arg (by rw [List.getElem?_set_ne hij]; exact hj) hv
          have kv2 : RwS l1 r1 (.fn f (ts.set j v2)) (.fn f ((ts.set j v2).set i u1)) := .arg (by rw [List.getElem?_set_ne (fun z => hij z.symm)]; exact hi) hu
          rw [List.set_comm _ _ (fun z => hij z.symm)] at kv2
          have d1 := Conn.down (P := P) hn hw hR hRP (ku.ok (hR _ _ h1).2.2 (gt_sub (hR _ _ h1).1) hs) (ku.gt hn hw (hR _ _ h1).1 hs) (Rws.one h2 ku2)
          have d2 := Conn.down (P := P) hn hw hR hRP (kv.ok (hR _ _ h2).2.2 (gt_sub (hR _ _ h2).1) hs) (kv.gt hn hw (hR _ _ h2).1 hs) (Rws.one h1 kv2)
          exact d1.trans d2.symm
end
/-! ends are one -/
def IrrP (R : Tm → Tm → Prop) (t : Tm) : Prop := ∀ l r u, R l r → ¬ RwS l r t u
section
variable {S : List Sg} {R : Tm → Tm → Prop}
theorem nf_ex (hn : (S.map Sg.name).Nodup) (hw : ∀ s ∈ S, 1 ≤ s.wt) (hR : RuleOk S R) {t : Tm} (ht : TOk S anyB t) : ∃ u, Rws R t u ∧ IrrP R u := by
  have ha := low_acc hn hw _ t ht (Nat.le_refl _)
  induction ha with
  | intro t _ ih =>
    by_cases h : IrrP R t
    · exact ⟨t, .refl _, h⟩
    · have : ∃ l r u, R l r ∧ RwS l r t u := by
        apply Classical.byContradiction
        intro z
        exact h fun l r u h1 h2 => z ⟨l, r, u, h1, h2⟩
      obtain ⟨l, r, u, h1, h2⟩ := this
      have ok := h2.ok (hR _ _ h1).2.2 (gt_sub (hR _ _ h1).1) ht
      obtain ⟨v, h3, h4⟩ := ih u ⟨h2.gt hn hw (hR _ _ h1).1 ht, ok⟩ ok
      exact ⟨v, .head h1 h2 h3, h4⟩
/-- one end, where peaks are connected below -/
theorem nf_one (hn : (S.map Sg.name).Nodup) (hw : ∀ s ∈ S, 1 ≤ s.wt) (hR : RuleOk S R) (hp : ∀ l1 r1 l2 r2, R l1 r1 → R l2 r2 → ∀ s t1 t2, TOk S anyB s → RwS l1 r1 s t1 → RwS l2 r2 s t2 → Conn S R s t1 t2) {s : Tm} (hs : TOk S anyB s) : ∀ n1 n2, Rws R s n1 → IrrP R n1 → Rws R s n2 → IrrP R n2 → n1 = n2 := by
  have ha := low_acc hn hw _ s hs (Nat.le_refl _)
  induction ha with
  | intro s _ ih =>
    intro n1 n2 h1 i1 h2 i2
    cases h1 with
    | refl =>
      cases h2 with
      | refl => rfl
      | head a b _ => exact absurd b (i1 _ _ _ a)
    | @head _ t1 _ l1 r1 a1 b1 c1 =>
      cases h2 with
      | refl => exact absurd b1 (i2 _ _ _ a1)
      | @head _ t2 _ l2 r2 a2 b2 c2 =>
        have hc := hp _ _ _ _ a1 a2 s t1 t2 hs b1 b2
        -- along the chain all ends are one
        have key : ∀ x y, Conn S R s x y → ∀ m1 m2, Rws R x m1 → IrrP R m1 → Rws R y m2 → IrrP R m2 → m1 = m2 := by
          intro x y hxy
          induction hxy with
          | @refl x hlt hok => intro m1 m2 p1 q1 p2 q2; exact ih x ⟨hlt, hok⟩ hok m1 m2 p1 q1 p2 q2
          | @step x y z l r hlt hok hlr hst hrest ihc =>
            intro m1 m2 p1 q1 p2 q2
            obtain ⟨⟨hy1, hy2⟩, _⟩ := hrest.lt
            rcases hlr with hlr | hlr
            · obtain ⟨m, p, q⟩ := nf_ex hn hw hR hy2
              have e1 := ih x ⟨hlt, hok⟩ hok m1 m p1 q1 (.head hlr hst p) q
              exact e1.trans (ihc m m2 p q p2 q2)
            · have e1 := ih y ⟨hy1, hy2⟩ hy2 m1 m1 (.head hlr hst.swap p1) q1 (.head hlr hst.swap p1) q1
              exact ihc m1 m2 (.head hlr hst.swap p1) q1 p2 q2
        exact key t1 t2 hc n1 n2 c1 i1 c2 i2
/-- what steps join has one end -/
inductive Eqv (S : List Sg) (P : Tm → Tm → Prop) : Tm → Tm → Prop
  | refl {t : Tm} : TOk S anyB t → Eqv S P t t
  | step {s t u l r : Tm} : TOk S anyB s → (P l r ∨ P r l) → RwS l r s t → Eqv S P t u → Eqv S P s u
theorem Eqv.ok {P : Tm → Tm → Prop} {s t : Tm} (h : Eqv S P s t) : TOk S anyB s ∧ TOk S anyB t := by
  induction h with
  | refl h => exact ⟨h, h⟩
  | step h _ _ _ ih => exact ⟨h, ih.2⟩
theorem Eqv.trans {P : Tm → Tm → Prop} {s t u : Tm} (h : Eqv S P s t) (k : Eqv S P t u) : Eqv S P s u := by
  induction h with
  | refl _ => exact k
  | step h1 h2 h3 _ ih => exact .step h1 h2 h3 (ih k)
theorem Eqv.symm {P : Tm → Tm → Prop} {s t : Tm} (h : Eqv S P s t) : Eqv S P t s := by
  induction h with
  | refl h => exact .refl h
  | step h1 h2 h3 h4 ih => exact ih.trans (.step h4.ok.1 h2.symm h3.swap (.refl h1))
theorem eqv_nf (hn : (S.map Sg.name).Nodup) (hw : ∀ s ∈ S, 1 ≤ s.wt) (hR : RuleOk S R) (hp : ∀ l1 r1 l2 r2, R l1 r1 → R l2 r2 → ∀ s t1 t2, TOk S anyB s → RwS l1 r1 s t1 → RwS l2 r2 s t2 → Conn S R s t1 t2) {s t : Tm} (h : Eqv S R s t) : ∀ n1 n2, Rws R s n1 → IrrP R n1 → Rws R t n2 → IrrP R n2 → n1 = n2 := by
  induction h with
  | refl hok => exact nf_one hn hw hR hp hok
  | @step x y z l r hok hlr hst hrest ihc =>
    intro m1 m2 p1 q1 p2 q2
    have hy2 := hrest.ok.1
    rcases hlr with hlr | hlr
    · obtain ⟨m, p, q⟩ := nf_ex hn hw hR hy2
      have e1 := nf_one hn hw hR hp hok m1 m p1 q1 (.head hlr hst p) q
      exact e1.trans (ihc m m2 p q p2 q2)
    · exact ihc m1 m2 (.head hlr hst.swap p1) q1 p2 q2
end
end Rw
/-! entries, steps as values -/
namespace Rw
open PySem L2
/-- an entry of a book -/
def EntAt (C : Addr) (r : Rl) (p : Addr) (G : Gp) : Prop := ∃ c, G p = some (.ins C [("number", .int (r.num : Nat)), ("left", r.l.av), ("right", r.r.av), ("chain", .ref c)])
theorem EntAt.sub {C : Addr} {r : Rl} {p : Addr} {G G' : Gp} (h : EntAt C r p G) (s : GSub G G') : EntAt C r p G' := by
  obtain ⟨c, h⟩ := h
  exact ⟨c, s _ _ h⟩
/-- a step as a value -/
def spA (s : Sp) : AV := .tup [.int (s.num : Nat), plA s.place, .bl s.forth, s.after.av]
/-- rules by their objects -/
def RlsAt (C : Addr) (rs : List Rl) (es : List Addr) (G : Gp) : Prop := rs.length = es.length ∧ ∀ (i : Nat) r e, rs[i]? = some r → es[i]? = some e → EntAt C r e G
theorem RlsAt.sub {C : Addr} {rs : List Rl} {es : List Addr} {G G' : Gp} (h : RlsAt C rs es G) (s : GSub G G') : RlsAt C rs es G' := ⟨h.1, fun i r e a b => (h.2 i r e a b).sub s⟩
/-- sides that can be walked -/
structure RlP (r : Rl) : Prop where
  cl : r.l.dat.canLay0 = true
  dr : r.r.depth < 200
  sl : r.l.size ≤ 1000000
  sr : r.r.size ≤ 1000000
theorem fitR_drop {rs : List Rl} {u : Tm} {i : Nat} {r : Rl} (h : rs[i]? = some r) : fitR (rs.drop i) u = match Tm.fit r.l u with
    | some fl => some (r, fl)
    | none => fitR (rs.drop (i + 1)) u := by
  rw [drop_cons h, fitR]
  all_goals (cases Tm.fit r.l u <;> rfl)
theorem stepAt_drop {rs : List Rl} {t u : Tm} {ps : List (List Nat)} {i : Nat} {p : List Nat} (h : ps[i]? = some p) (hu : Tm.part t p = some u) : stepAt rs t (ps.drop i) = match fitR rs u with
    | some (r, fl) => some ⟨r.num, p, true, Tm.put t p (Tm.fill fl r.r)⟩
    | none => stepAt rs t (ps.drop (i + 1)) := by
  rw [drop_cons h, stepAt, hu]
  all_goals try simp only
  all_goals (cases fitR rs u <;> rfl)
/-- the terms on the way stay small -/
def WornI (rs : List Rl) (most : Nat) (I : Nat → Tm → Prop) : Prop := (∀ i t, I i t → t.dat.canLay0 = true ∧ t.depth < 201 ∧ t.size ≤ 100000) ∧ ∀ i t s, i ≤ most → I i t → fstep rs t = some s → I (i + 1) s.after
/-- a step or none -/
def oA : Option Sp → AV
  | none => .non
  | some s => spA s
/-- rules out of pairs, numbered from f on -/
def rlsOf : Nat → List (Tm × Tm) → List Rl
  | _, [] => []
  | f, p :: ps => ⟨f, p.1, p.2⟩ :: rlsOf (f + 1) ps
theorem rlsOf_get : ∀ {ps : List (Tm × Tm)} {f i : Nat}, (rlsOf f ps)[i]? = (ps[i]?).map fun p => ⟨f + i, p.1, p.2⟩
  | [], f, i => by rw [rlsOf]; simp
  | p :: ps, f, 0 => by rw [rlsOf]; rfl
  | p :: ps, f, i + 1 => by
    rw [rlsOf, List.getElem?_cons_succ, List.getElem?_cons_succ, rlsOf_get, show f + 1 + i = f + (i + 1) by omega]
theorem rlsOf_len : ∀ {ps : List (Tm × Tm)} {f : Nat}, (rlsOf f ps).length = ps.length
  | [], _ => rfl
  | p :: ps, f => by rw [rlsOf, List.length_cons, rlsOf_len, List.length_cons]
/-- a told step: number, place, the term behind -/
def stA (s : Sp) : AV := .tup [.int (s.num : Nat), plA s.place, s.after.av]
/-! other numbers -/
def Sp.add (f : Nat) (s : Sp) : Sp := ⟨f + s.num, s.place, s.forth, s.after⟩
theorem fitR_shift (u : Tm) : ∀ (ps : List (Tm × Tm)) (f g : Nat), fitR (rlsOf (f + g) ps) u = (fitR (rlsOf g ps) u).map fun q => (⟨f + q.1.num, q.1.l, q.1.r⟩, q.2)
  | [], _, _ => rfl
  | p :: ps, f, g => by
    rw [rlsOf, rlsOf, fitR, fitR]
    simp only
    cases Tm.fit p.1 u with
    | some fl => rfl
    | none => simp only; rw [show f + g + 1 = f + (g + 1) by omega]; exact fitR_shift u ps f (g + 1)
theorem stepAt_shift (rs : List (Tm × Tm)) (f : Nat) (t : Tm) : ∀ ps : List (List Nat), stepAt (rlsOf f rs) t ps = (stepAt (rlsOf 0 rs) t ps).map (Sp.add f)
  | [] => rfl
  | p :: ps => by
    rw [stepAt, stepAt]
    cases Tm.part t p with
    | none => exact stepAt_shift rs f t ps
    | some u =>
      simp only
      have := fitR_shift u rs f 0
      rw [Nat.add_zero] at this
      rw [this]
      cases fitR (rlsOf 0 rs) u with
      | none => exact stepAt_shift rs f t ps
      | some q => rfl
theorem fstep_shift (rs : List (Tm × Tm)) (f : Nat) (t : Tm) : fstep (rlsOf f rs) t = (fstep (rlsOf 0 rs) t).map (Sp.add f) := stepAt_shift rs f t _
theorem wornF_shift (rs : List (Tm × Tm)) (f : Nat) : ∀ (k : Nat) (t : Tm), wornF (rlsOf f rs) k t = (wornF (rlsOf 0 rs) k t).map (List.map (Sp.add f))
  | 0, t => by
    rw [wornF, wornF, fstep_shift]
    cases fstep (rlsOf 0 rs) t <;> rfl
  | k + 1, t => by
    rw [wornF, wornF, fstep_shift]
    cases fstep (rlsOf 0 rs) t with
    | none => rfl
    | some s =>
      simp only [Option.map_some]
      rw [show (Sp.add f s).after = s.after from rfl, wornF_shift rs f k s.after]
      cases wornF (rlsOf 0 rs) k s.after <;> rfl
theorem WornI.shift {rs : List (Tm × Tm)} {f most : Nat} {I : Nat → Tm → Prop} (h : WornI (rlsOf 0 rs) most I) : WornI (rlsOf f rs) most I := by
  refine ⟨h.1, fun i t s hi hI hs => ?_⟩
  rw [fstep_shift] at hs
  cases e : fstep (rlsOf 0 rs) t with
  | none => rw [e] at hs; cases hs
  | some s0 => rw [e] at hs; cases hs; exact h.2 i t s0 hi hI e
/-- what stands on the way -/
theorem worn_I {rs : List Rl} {most : Nat} {I : Nat → Tm → Prop} (h : WornI rs most I) : ∀ {k j : Nat} {t : Tm} {ch : List Sp}, wornF rs k t = some ch → j + k ≤ most → I j t → ∀ s ∈ ch, ∃ i, I i s.after ∧ s.forth = true
  | 0, j, t, ch, hw, hj, hI, s, hs => by
    rw [wornF] at hw
    cases e : fstep rs t with
    | none => rw [e] at hw; cases hw; cases hs
    | some s0 => rw [e] at hw; cases hw
  | k + 1, j, t, ch, hw, hj, hI, s, hs => by
    rw [wornF] at hw
    cases e : fstep rs t with
    | none => rw [e] at hw; cases hw; cases hs
    | some s0 =>
      rw [e] at hw
      simp only [Option.map_eq_some_iff] at hw
      obtain ⟨c, h1, rfl⟩ := hw
      have hI' := h.2 j t s0 (by omega) hI e
      rcases List.mem_cons.mp hs with rfl | hs
      · obtain ⟨_, _, _, hfo, _⟩ := fstep_some e
        exact ⟨_, hI', hfo⟩
      · exact worn_I h h1 (by omega) hI' s hs
end Rw
/-! how far a step grows -/
namespace Rw
open PySem L2
theorem sb_sub_size {g : Int → Tm} {l : Tm} {n : Int} (h : n ∈ l.flat) : (g n).size ≤ (Tm.sb g l).size ∧ ((∀ m, l ≠ .bl m) → (g n).size + 1 ≤ (Tm.sb g l).size) := by
  induction l using Tm.ind with
  | hb m =>
    rw [Tm.flat, List.mem_singleton] at h
    subst h
    rw [Tm.sb]
    exact ⟨Nat.le_refl _, fun z => absurd rfl (z n)⟩
  | hf f ts ih =>
    rw [Tm.flat] at h
    obtain ⟨t, ht, hn⟩ := Tm.mem_flatL.mp h
    have h1 := (ih t ht hn).1
    have h2 : (Tm.sb g t).size ≤ Tm.sizeL (Tm.sbL g ts) := Tm.size_le_of_mem (by rw [Tm.sbL_map]; exact List.mem_map.mpr ⟨t, ht, rfl⟩)
    rw [Tm.sb, Tm.size]
    exact ⟨by omega, fun _ => by omega⟩
theorem sb_sub_depth {g : Int → Tm} {l : Tm} {n : Int} (h : n ∈ l.flat) : (g n).depth ≤ (Tm.sb g l).depth := by
  induction l using Tm.ind with
  | hb m =>
    rw [Tm.flat, List.mem_singleton] at h
    subst h
    rw [Tm.sb]
    exact Nat.le_refl _
  | hf f ts ih =>
    rw [Tm.flat] at h
    obtain ⟨t, ht, hn⟩ := Tm.mem_flatL.mp h
    have h1 := ih t ht hn
    have h2 : (Tm.sb g t).depth ≤ Tm.depthL (Tm.sbL g ts) := Tm.depth_le_of_mem (by rw [Tm.sbL_map]; exact List.mem_map.mpr ⟨t, ht, rfl⟩)
    rw [Tm.sb, Tm.depth]
    omega
theorem sb_depth_le {g : Int → Tm} {d : Nat} : ∀ r : Tm, (∀ n ∈ r.flat, (g n).depth ≤ d) → (Tm.sb g r).depth ≤ r.depth + d := by
  intro r
  induction r using Tm.ind with
  | hb m => intro h; rw [Tm.sb, Tm.depth, Nat.zero_add]; exact h m (by rw [Tm.flat]; exact List.mem_singleton.mpr rfl)
  | hf f ts ih =>
    intro h
    rw [Tm.sb, Tm.depth, Tm.depth, Tm.sbL_map]
    have : Tm.depthL (ts.map (Tm.sb g)) ≤ Tm.depthL ts + d := Tm.depthL_le fun u hu => by
      obtain ⟨t, ht, rfl⟩ := List.mem_map.mp hu
      have h1 := ih t ht fun n hn => h n (by rw [Tm.flat]; exact Tm.mem_flatL.mpr ⟨t, ht, hn⟩)
      have h2 := Tm.depth_le_of_mem ht
      omega
    omega
theorem sum_le_mul {l : List Int} {f : Int → Nat} {b : Nat} (h : ∀ n ∈ l, f n ≤ b) : (l.map f).sum ≤ l.length * b := by
  induction l with
  | nil => simp
  | cons a l ih =>
    rw [List.map_cons, List.sum_cons, List.length_cons, Nat.add_mul, Nat.one_mul]
    have := ih fun n hn => h n (List.mem_cons_of_mem _ hn)
    have := h a List.mem_cons_self
    omega
/-- by a right side of up to three signs of the left side's blanks -/
theorem sb_right_size {g : Int → Tm} {l r : Tm} (hl : ∀ m, l ≠ .bl m) (hs : ∀ n ∈ r.flat, n ∈ l.flat) (h3 : r.size ≤ 3) : (Tm.sb g r).size ≤ 2 * (Tm.sb g l).size + 1 := by
  have h1 := Tm.sb_size g r
  have h2 := sum_le_mul (l := r.flat) (f := fun n => (g n).size) (b := (Tm.sb g l).size - 1) fun n hn => by
    have := (sb_sub_size (g := g) (hs n hn)).2 hl
    omega
  have hp := Tm.size_pos (Tm.sb g l)
  generalize (Tm.sb g l).size = m at *
  have hle := Tm.flat_len r
  cases r with
  | bl n =>
    rw [Tm.size, Tm.flat, List.length_singleton] at h1
    rw [Tm.flat, List.length_singleton, Nat.one_mul] at h2
    omega
  | fn f ts =>
    have : (Tm.flat (.fn f ts)).length ≤ 2 := by
      rw [Tm.flat]
      have := Tm.flatL_len ts
      rw [Tm.size] at h3
      omega
    generalize (Tm.flat (.fn f ts)).length = k at *
    have : k * (m - 1) ≤ 2 * (m - 1) := Nat.mul_le_mul_right _ this
    omega
theorem RwS.size2 {l r s t : Tm} (hl : ∀ m, l ≠ .bl m) (hs : ∀ n ∈ r.flat, n ∈ l.flat) (h3 : r.size ≤ 3) (h : RwS l r s t) : t.size ≤ 2 * s.size + 1 := by
  induction h with
  | root g => exact sb_right_size hl hs h3
  | @arg f ts i t t' hi _ ih =>
    have h1 := sizeL_set (u := t') hi
    have h2 := Tm.size_le_of_mem (List.mem_of_getElem? hi)
    rw [Tm.size, Tm.size]
    omega
theorem RwS.depth2 {l r s t : Tm} {k : Nat} (hs : ∀ n ∈ r.flat, n ∈ l.flat) (hk : r.depth ≤ k) (h : RwS l r s t) : t.depth ≤ s.depth + k := by
  induction h with
  | root g =>
    have := sb_depth_le (g := g) (d := (Tm.sb g l).depth) r fun n hn => sb_sub_depth (hs n hn)
    omega
  | @arg f ts i t t' hi _ ih =>
    have h1 := depthL_set (ts := ts) (i := i) (u := t')
    have h2 := Tm.depth_le_of_mem (List.mem_of_getElem? hi)
    rw [Tm.depth, Tm.depth]
    omega
theorem RwS.less {f : Str} {n : Int} {s t : Tm} (h : RwS (.fn f [.bl n]) (.bl n) s t) : t.size < s.size := by
  induction h with
  | root g => rw [Tm.sb, Tm.sb, Tm.sbL, Tm.sbL, Tm.sb, Tm.size, Tm.sizeL, Tm.sizeL]; omega
  | @arg f ts i t t' hi _ ih =>
    have h1 := sizeL_set (u := t') hi
    rw [Tm.size, Tm.size]
    omega
theorem TOk.blk {S : List Sg} {B : Int → Prop} {t : Tm} (h : TOk S B t) : ∀ n ∈ t.flat, B n := by
  induction h with
  | @bl n hn => intro m hm; rw [Tm.flat, List.mem_singleton] at hm; subst hm; exact hn
  | @fn s ts hs hl _ ih =>
    intro m hm
    rw [Tm.flat] at hm
    obtain ⟨t, ht, hn⟩ := Tm.mem_flatL.mp hm
    exact ih t ht m hn
/-- a drawn rule -/
structure RuD (S : List Sg) (l r : Tm) : Prop where
  lo : TOk S anyB l
  ro : TOk S anyB r
  sub : ∀ n ∈ r.flat, n ∈ l.flat
  lf : ∀ n, l ≠ .bl n
  ls : l.size ≤ 7
  ld : l.depth ≤ 3
  rs : r.size ≤ 3
  rd : r.depth ≤ 2
theorem rlsOf_mem {f : Nat} {ps : List (Tm × Tm)} {r : Rl} (h : r ∈ rlsOf f ps) : (r.l, r.r) ∈ ps := by
  obtain ⟨i, hi⟩ := List.getElem?_of_mem h
  rw [rlsOf_get] at hi
  cases e : ps[i]? with
  | none => rw [e] at hi; cases hi
  | some p => rw [e] at hi; cases hi; exact List.mem_of_getElem? e
theorem fstep_rws {rs : List (Tm × Tm)} {t : Tm} {s : Sp} (h : fstep (rlsOf 0 rs) t = some s) : ∃ p ∈ rs, RwS p.1 p.2 t s.after := by
  obtain ⟨r, hr, _, _, hs⟩ := fstep_some h
  exact ⟨(r.l, r.r), rlsOf_mem hr, hs.rws⟩
def IgrW (S : List Sg) (i : Nat) (t : Tm) : Prop := TOk S anyB t ∧ t.size + 2 ≤ 9 * 2 ^ i ∧ t.depth ≤ 3 + 2 * i ∧ i ≤ 12
theorem worn_grow {S : List Sg} (hn : NamesOk (S.map Sg.name)) {rs : List (Tm × Tm)} (h : ∀ p ∈ rs, RuD S p.1 p.2) {most : Nat} (hm : most ≤ 11) : WornI (rlsOf 0 rs) most (IgrW S) := by
  refine ⟨fun i t ⟨h1, h2, h3, h4⟩ => ⟨h1.plain hn, by omega, ?_⟩, fun i t s hi ⟨h1, h2, h3, h4⟩ hs => ?_⟩
  · have : 2 ^ i ≤ 2 ^ 12 := Nat.pow_le_pow_right (by decide) h4
    omega
  · obtain ⟨p, hp, hr⟩ := fstep_rws hs
    have k := h p hp
    have e1 := hr.size2 k.lf k.sub k.rs
    have e2 := hr.depth2 k.sub k.rd
    refine ⟨hr.ok k.ro k.sub h1, ?_, by omega, by omega⟩
    rw [Nat.pow_succ]
    omega
def IfallW (S : List Sg) (_ : Nat) (t : Tm) : Prop := TOk S anyB t ∧ t.size ≤ 60
theorem worn_fall {S : List Sg} (hn : NamesOk (S.map Sg.name)) {rs : List (Tm × Tm)} {f : Str} (h : ∀ p ∈ rs, p = (.fn f [.bl 0], .bl 0)) {most : Nat} : WornI (rlsOf 0 rs) most (IfallW S) := by
  refine ⟨fun i t ⟨h1, h2⟩ => ⟨h1.plain hn, by have := depth_le_sz t; omega, by omega⟩, fun i t s hi ⟨h1, h2⟩ hs => ?_⟩
  obtain ⟨p, hp, hr⟩ := fstep_rws hs
  rw [h p hp] at hr
  have e1 := RwS.less hr
  refine ⟨hr.ok (.bl trivial) (fun n hn => ?_) h1, by omega⟩
  rw [Tm.flat, Tm.flatL, Tm.flatL, List.append_nil]; exact hn
/-! plain, small terms -/
structure SmT (n : Nat) (t : Tm) : Prop where
  can : t.dat.canLay0 = true
  sz : t.size ≤ n
theorem SmT.put {n m : Nat} {s v : Tm} {p : List Nat} (h : SmT n s) (k : SmT m v) : SmT (n + m) (Tm.put s p v) := by
  refine ⟨?_, ?_⟩
  · rw [← Tm.putI_nat]; exact can_putI k.can h.can
  · have := put_size s v p; have := h.sz; have := k.sz; omega
theorem SmT.up {n : Nat} {s : Tm} {f : Str} (hf : (PyData.str f).canLay0 = true) (h : SmT n s) : SmT (n + 1) (.fn f [s]) := by
  refine ⟨?_, ?_⟩
  · show ((PyData.str f).canLay0 && (s.dat.canLay0 && true)) = true
    rw [hf, h.can]; rfl
  · rw [Tm.size, Tm.sizeL, Tm.sizeL]; have := h.sz; omega
theorem SmT.le {n m : Nat} {s : Tm} (h : SmT n s) (hm : n ≤ m) : SmT m s := ⟨h.can, Nat.le_trans h.sz hm⟩
theorem SmT.upN {n : Nat} {s : Tm} {f : Str} (hf : (PyData.str f).canLay0 = true) (h : SmT n s) (k : Nat) : SmT (n + k) (Tm.upN f k s) :=
  ⟨Tm.upN_plain hf k h.can, by rw [Tm.upN_size]; have := h.sz; omega⟩
theorem SmT.depth {n : Nat} {s : Tm} (h : SmT n s) : s.depth ≤ n := Nat.le_trans (depth_le_sz s) h.sz
theorem up_plain : (PyData.str "up").canLay0 = true := by decide +kernel
/-- a drawn term filled -/
theorem fill_smt {S : List Sg} (hS : NamesOk (S.map Sg.name)) {B : Int → Prop} {dp m n : Nat} {fl : Fill} (hf : FOk S (fun _ => True) dp m fl) (hm : 1 ≤ m) {t : Tm} (h : TOk S B t) (hz : t.size ≤ n) : SmT (n * m) (t.fill fl) := by
  refine ⟨(h.fill (B' := fun _ => True) (fun _ _ => trivial) fun p hp => (hf.2 p hp).1).plain hS, ?_⟩
  have h1 := Tm.fill_size hm (fun p hp => (hf.2 p hp).2.2) t
  have h2 : t.size * m ≤ n * m := Nat.mul_le_mul_right _ hz
  omega
namespace Tm
mutual
theorem fitT_len : ∀ (p t : Tm) (fl fl' : Fill), fitT p t fl = some fl' → fl'.length ≤ fl.length + p.flat.length
  | .bl n, t, fl, fl', h => by
    rw [fitT] at h
    split at h
    · cases h
      have := Fill.put_length fl n t
      rw [flat, List.length_singleton]; exact this
    · cases h
  | .fn _ _, .bl _, _, _, h => by rw [fitT] at h; cases h
  | .fn f ss, .fn g ts, fl, fl', h => by
    rw [fitT] at h
    split at h
    · rw [flat]; exact fitL_len ss ts fl fl' h
    · cases h
theorem fitL_len : ∀ (ps ts : List Tm) (fl fl' : Fill), fitL ps ts fl = some fl' → fl'.length ≤ fl.length + (flatL ps).length
  | [], [], fl, fl', h => by rw [fitL] at h; cases h; exact Nat.le_add_right _ _
  | [], _ :: _, fl, fl', h => by rw [fitL] at h <;> first | (cases h; exact Nat.le_add_right _ _) | (intros; contradiction)
  | _ :: _, [], fl, fl', h => by rw [fitL] at h <;> first | (cases h; exact Nat.le_add_right _ _) | (intros; contradiction)
  | p :: ps, t :: ts, fl, fl', h => by
    rw [fitL] at h
    cases e : fitL ps ts fl with
    | none => rw [e] at h; cases h
    | some fl1 =>
      rw [e] at h
      have h1 := fitL_len ps ts fl fl1 e
      have h2 := fitT_len p t fl1 fl' h
      rw [flatL, List.length_append]
      omega
end
end Tm
theorem fit_len {s t : Tm} {fl : Fill} (h : Tm.fit s t = some fl) : fl.length ≤ s.size := by
  have h1 := Tm.fitT_len _ _ _ _ h
  have h2 := Tm.flat_len s
  rw [List.length_nil] at h1
  omega
theorem fit_val_size {s t v : Tm} {fl : Fill} {n : Int} (h : Tm.fit s t = some fl) (hv : fl.val n = some v) : v.size ≤ t.size := by
  have h1 := Tm.fit_sb h
  have h2 := (Tm.fit_key h (n := n)).mpr ⟨v, hv⟩
  have h3 := (sb_sub_size (g := fl.fn) h2).1
  rw [h1] at h3
  have : fl.fn n = v := by unfold Fill.fn; rw [hv]; rfl
  rw [this] at h3
  exact h3
end Rw
/-! steps and chains as they are told -/
namespace Rw
open PySem L2
/-- whether two sides turn a term into another one at a place -/
def stepB (l r s : Tm) (p : List Int) (t : Tm) : Bool := match Tm.partI s p, Tm.partI t p with
  | some u, some v => decide (Tm.putI s p (.bl 0) = Tm.putI t p (.bl 0)) && (Tm.fit (.fn "" [l, r]) (.fn "" [u, v])).isSome
  | _, _ => false
theorem part_put : ∀ (p : List Nat) {s u : Tm} (v : Tm), Tm.part s p = some u → Tm.part (Tm.put s p v) p = some v := by
  intro p
  induction p with
  | nil => intro s u v _; rw [put_nil, part_nil]
  | cons k p ih =>
    intro s u v h
    cases s with
    | bl n => rw [Tm.part] at h; cases h
    | fn f ts =>
      rw [Tm.part] at h
      split at h
      · cases h
      · rename_i h0
        cases e : ts[k - 1]? with
        | none => rw [e] at h; cases h
        | some t =>
          rw [e] at h
          have hl := (List.getElem?_eq_some_iff.mp e).1
          rw [Tm.put, e]
          simp only
          rw [Tm.part, if_neg h0, List.getElem?_set_self hl]
          exact ih v h
theorem put_put : ∀ (p : List Nat) {s u : Tm} (v x : Tm), Tm.part s p = some u → Tm.put (Tm.put s p v) p x = Tm.put s p x := by
  intro p
  induction p with
  | nil => intro s u v x _; simp only [put_nil]
  | cons k p ih =>
    intro s u v x h
    cases s with
    | bl n => rw [Tm.part] at h; cases h
    | fn f ts =>
      rw [Tm.part] at h
      split at h
      · cases h
      · rename_i h0
        cases e : ts[k - 1]? with
        | none => rw [e] at h; cases h
        | some t =>
          rw [e] at h
          have hl := (List.getElem?_eq_some_iff.mp e).1
          rw [Tm.put, Tm.put, e]
          simp only
          rw [Tm.put, List.getElem?_set_self hl]
          simp only
          rw [ih v x h, List.set_set]
theorem put_same : ∀ (p : List Nat) {s u : Tm}, Tm.part s p = some u → Tm.put s p u = s := by
  intro p
  induction p with
  | nil => intro s u h; rw [part_nil] at h; cases h; rw [put_nil]
  | cons k p ih =>
    intro s u h
    cases s with
    | bl n => rw [Tm.part] at h; cases h
    | fn f ts =>
      rw [Tm.part] at h
      split at h
      · cases h
      · cases e : ts[k - 1]? with
        | none => rw [e] at h; cases h
        | some t =>
          rw [e] at h
          rw [Tm.put, e]
          simp only
          rw [ih h, set_same e]
theorem stepB_of {l r s t : Tm} {p : List Nat} (h : StepAt l r s t p) : stepB l r s (p.map fun k : Nat => (k : Int)) t = true := by
  obtain ⟨g, h1, rfl⟩ := h
  unfold stepB
  rw [Tm.partI_nat, Tm.partI_nat, h1, part_put p _ h1]
  simp only
  rw [Tm.putI_nat, Tm.putI_nat, put_put p _ _ h1, decide_eq_true rfl, Bool.true_and]
  obtain ⟨fl, hf, _⟩ := Tm.fit_some (p := .fn "" [l, r]) (t := .fn "" [Tm.sb g l, Tm.sb g r]) (g := g) (by rw [Tm.sb, Tm.sbL, Tm.sbL, Tm.sbL])
  rw [hf]; rfl
theorem StepAt.back {l r s t : Tm} {p : List Nat} (h : StepAt l r s t p) : StepAt r l t s p := by
  obtain ⟨g, h1, rfl⟩ := h
  exact ⟨g, part_put p _ h1, by rw [put_put p _ _ h1, put_same p h1]⟩
/-- a step as it is told -/
structure SpI where
  num : Int
  place : List Nat
  forth : Bool
  after : Tm
def SpI.av (s : SpI) : AV := .tup [.int s.num, plA s.place, .bl s.forth, s.after.av]
def Sp.I (s : Sp) : SpI := ⟨s.num, s.place, s.forth, s.after⟩
theorem Sp.I_av (s : Sp) : s.I.av = spA s := rfl
/-- both sides, turned where the step goes back -/
def sidesF (p : Tm × Tm) (forth : Bool) : Tm × Tm := if forth = true then p else (p.2, p.1)
def walkF (rs : List (Tm × Tm)) : Tm → List SpI → Option Tm
  | t, [] => some t
  | t, s :: c => match (if 0 ≤ s.num then rs[s.num.toNat]? else none) with
    | none => none
    | some p => if stepB (sidesF p s.forth).1 (sidesF p s.forth).2 t (s.place.map fun k : Nat => (k : Int)) s.after = true then walkF rs s.after c else none
def endF : Tm → List SpI → Tm
  | t, [] => t
  | _, s :: c => endF s.after c
def turnF : Tm → List SpI → List SpI
  | _, [] => []
  | t, s :: c => turnF s.after c ++ [⟨s.num, s.place, !s.forth, t⟩]
theorem turnF_len : ∀ (c : List SpI) (t : Tm), (turnF t c).length = c.length
  | [], _ => rfl
  | s :: c, t => by rw [turnF, List.length_append, turnF_len c, List.length_singleton, List.length_cons]
/-- each step is one by the pairs -/
def ChOk (rs : List (Tm × Tm)) : Tm → List SpI → Prop
  | _, [] => True
  | t, s :: c => (∃ p, 0 ≤ s.num ∧ rs[s.num.toNat]? = some p ∧ StepAt (sidesF p s.forth).1 (sidesF p s.forth).2 t s.after s.place) ∧ ChOk rs s.after c
theorem ChOk.walk {rs : List (Tm × Tm)} : ∀ {c : List SpI} {t : Tm}, ChOk rs t c → walkF rs t c = some (endF t c)
  | [], t, _ => rfl
  | s :: c, t, ⟨⟨p, h0, h1, h2⟩, h3⟩ => by
    rw [walkF, if_pos h0, h1]
    simp only
    rw [if_pos (stepB_of h2), endF]
    exact h3.walk
theorem ChOk.app {rs : List (Tm × Tm)} : ∀ {c d : List SpI} {t : Tm}, ChOk rs t c → ChOk rs (endF t c) d → ChOk rs t (c ++ d)
  | [], _, _, _, h => h
  | _ :: _, _, _, ⟨h1, h2⟩, h => ⟨h1, h2.app h⟩
theorem endF_app : ∀ (c d : List SpI) (t : Tm), endF t (c ++ d) = endF (endF t c) d
  | [], _, _ => rfl
  | _ :: c, d, _ => endF_app c d _
theorem sidesF_not (p : Tm × Tm) (b : Bool) : sidesF p (!b) = ((sidesF p b).2, (sidesF p b).1) := by cases b <;> rfl
theorem ChOk.turn {rs : List (Tm × Tm)} : ∀ {c : List SpI} {t : Tm}, ChOk rs t c → ChOk rs (endF t c) (turnF t c) ∧ endF (endF t c) (turnF t c) = t
  | [], _, _ => ⟨trivial, rfl⟩
  | s :: c, t, ⟨⟨p, h0, h1, h2⟩, h3⟩ => by
    obtain ⟨k1, k2⟩ := h3.turn
    rw [endF, turnF]
    refine ⟨k1.app ?_, by rw [endF_app]; rfl⟩
    rw [k2]
    exact ⟨⟨p, h0, h1, by rw [sidesF_not]; exact h2.back⟩, trivial⟩
theorem walkF_app {rs : List (Tm × Tm)} : ∀ (c d : List SpI) (t : Tm), walkF rs t (c ++ d) = (walkF rs t c).bind fun u => walkF rs u d
  | [], _, _ => rfl
  | s :: c, d, t => by
    rw [List.cons_append, walkF, walkF]
    split
    · rfl
    · split
      · exact walkF_app c d _
      · rfl
/-- chains that can be walked -/
structure SpIP (n : Nat) (s : SpI) : Prop where
  after : SmT n s.after
def spD (s : SpI) : PyData := .tuple [.int s.num, plD s.place, .bool s.forth, s.after.dat]
theorem pd_sp {G : Gp} (s : SpI) : PD G s.av (spD s) := .tup (.cons (.int _) (.cons (pd_pl _) (.cons (.bl _) (.cons (Tm.pd G s.after) .nil))))
theorem eqv_bool {a b : Bool} : PyData.eqv (.bool a) (.bool b) = true ↔ a = b := by
  cases a <;> cases b <;> decide +kernel
theorem eqv_sp {s t : SpI} : PyData.eqv (spD s) (spD t) = true ↔ s = t := by
  obtain ⟨a, p, b, x⟩ := s
  obtain ⟨a', p', b', x'⟩ := t
  show PyData.eqvAll [.int a, plD p, .bool b, x.dat] [.int a', plD p', .bool b', x'.dat] = true ↔ _
  rw [PyData.eqvAll, PyData.eqvAll, PyData.eqvAll, PyData.eqvAll, PyData.eqvAll, Bool.and_true, Bool.and_eq_true, Bool.and_eq_true, Bool.and_eq_true, eqv_int, eqv_pl, eqv_bool, Tm.eqv_dat]
  constructor
  · rintro ⟨rfl, rfl, rfl, rfl⟩; rfl
  · intro z; cases z; exact ⟨rfl, rfl, rfl, rfl⟩
theorem can_sp {s : SpI} (h : s.after.dat.canLay0 = true) : (spD s).canLay0 = true := by
  show (true && ((plD s.place).canLay0 && (true && (s.after.dat.canLay0 && true)))) = true
  rw [can_pl, h]; rfl
theorem depth_sp (s : SpI) : (spD s).depth ≤ s.after.depth + 5 := by
  have h1 := depth_pl s.place
  have h2 := Tm.depth_dat s.after
  have e1 : (PyData.int s.num).depth ≤ 2 := by rw [PyData.depth]; decide
  have e2 : (PyData.bool s.forth).depth ≤ 2 := by rw [PyData.depth]; decide
  unfold spD
  rw [PyData.depth, PyData.depthAll, PyData.depthAll, PyData.depthAll, PyData.depthAll, PyData.depthAll]
  omega
theorem depthAll_le {α : Type} {g : α → PyData} {d : Nat} : ∀ {xs : List α}, (∀ x ∈ xs, (g x).depth ≤ d) → PyData.depthAll (xs.map g) ≤ d
  | [], _ => by rw [List.map_nil, PyData.depthAll]; exact Nat.zero_le _
  | x :: xs, h => by
    rw [List.map_cons, PyData.depthAll]
    have := depthAll_le (xs := xs) fun y hy => h y (List.mem_cons_of_mem _ hy)
    have := h x List.mem_cons_self
    omega
/-- two rows -/
theorem fEq_row {α : Type} {neg : Bool} {G : Gp} {a b : Addr} {f : α → AV} {g : α → PyData} {xs ys : List α} {Q : AK} (hi : ∀ x y, PyData.eqv (g x) (g y) = true ↔ x = y) (ha : G a = some (.lst (xs.map f))) (hb : G b = some (.lst (ys.map f)))
    (hp : ∀ x, PD G (f x) (g x)) (hc : ∀ x, x ∈ xs ∨ x ∈ ys → (g x).canLay0 = true) (hd : ∀ x ∈ xs, (g x).depth ≤ 250) (h : ∀ c : Bool, (c = true ↔ xs = ys) → Q (.bl (if neg = true then !c else c)) G) : fEqD neg (.ref a) (.ref b) G Q := by
  refine ⟨.list (xs.map g), .list (ys.map g), .lst ha (PDL.map fun x _ => hp x), .lst hb (PDL.map fun x _ => hp x), ⟨canAll_map fun x hx => hc x (.inl hx), canAll_map fun x hx => hc x (.inr hx), ?_⟩, h _ (eqvAll_map hi xs ys)⟩
  have h1 := depthAll_le hd
  have : (PyData.list (xs.map g)).depth ≤ 260 := by rw [PyData.depth]; omega
  omega
theorem DS.sub {ns : List Int} {a : Addr} {G G' : Gp} (h : DiceAt ns a G) (s : GSub G G') : DS ns a G G' := by
  obtain ⟨D, e, i⟩ := h
  exact ⟨⟨D, s _ _ e, i⟩, fun b o _ hb => s _ _ hb⟩
/-- a comprehension with a test; what is made on the way is forgotten -/
theorem lcI_filterS {α : Type} {f : α → AV} {zs : List α} {bind : AV → ASt → ASt → Prop} {tt : ATT} {te : AT} {al : Gp → Prop} {ρ : ASt} {G : Gp} {Q : AK} (p : α → Bool) (g : α → AV) (hz : zs.length ≤ sizeLine) (hal : ∀ G', GSub G G' → al G') (hb : ∀ z, z ∈ zs → ∃ ρ2, bind (f z) ρ ρ2)
    (ht : ∀ z, z ∈ zs → ∀ G1, GSub G G1 → ∀ ρ2, bind (f z) ρ ρ2 → ∀ Qb : Bool → Gp → Prop, (∀ G2, GSub G1 G2 → Qb (p z) G2) → tt ρ2 G1 Qb fun _ _ => False)
    (he : ∀ z, z ∈ zs → p z = true → ∀ G1, GSub G G1 → ∀ ρ2, bind (f z) ρ ρ2 → ∀ Q : AK, (∀ G2, GSub G1 G2 → Q (g z) G2) → te ρ2 G1 Q fun _ _ => False)
    (hq : ∀ p' G1 G', GSub G G1 → New G1 p' (.lst ((zs.filter p).map g)) G' → Q (.ref p') G') : lcI bind tt te (zs.map f) al ρ G Q := by
  refine ⟨fun i acc G' => GSub G G' ∧ acc = ((zs.take i).filter p).map g, ⟨.refl, by simp⟩, ?_, ?_, ?_⟩
  · rintro i acc G' ⟨s, _⟩; exact hal G' s
  · rintro i x acc G' hx ⟨s, rfl⟩
    obtain ⟨z, hz', rfl⟩ := map_get hx
    have hm := List.mem_of_getElem? hz'
    have hi : i < zs.length := (List.getElem?_eq_some_iff.mp hz').1
    refine ⟨hb z hm, fun ρ2 h2 => ht z hm G' s ρ2 h2 _ fun G2 s2 => ?_⟩
    have e1 : zs.take (i + 1) = zs.take i ++ [z] := by rw [List.take_add_one, hz']; rfl
    cases hp : p z with
    | false =>
      simp only [Bool.false_eq_true, if_false]
      refine ⟨s.trans s2, ?_⟩
      rw [e1, List.filter_append, List.filter_cons, hp]
      simp
    | true =>
      simp only [if_true]
      refine he z hm hp G2 (s.trans s2) ρ2 h2 _ fun G3 s3 => ⟨?_, (s.trans s2).trans s3, ?_⟩
      · rw [List.length_map]
        have := List.length_filter_le p (zs.take i)
        rw [List.length_take] at this
        omega
      · rw [e1, List.filter_append, List.filter_cons, hp]
        simp
  · rintro acc G' ⟨s, rfl⟩ p' G2 hp
    rw [List.length_map, List.take_length] at hp
    exact hq p' G' G2 s hp
theorem ChOk.snoc {rs : List (Tm × Tm)} {c : List SpI} {t u : Tm} {s : SpI} {p : Tm × Tm} (h : ChOk rs t c) (e : endF t c = u) (h0 : 0 ≤ s.num) (h1 : rs[s.num.toNat]? = some p) (h2 : StepAt (sidesF p s.forth).1 (sidesF p s.forth).2 u s.after s.place) : ChOk rs t (c ++ [s]) ∧ endF t (c ++ [s]) = s.after := by
  refine ⟨h.app ?_, by rw [endF_app]; rfl⟩
  rw [e]
  exact ⟨⟨p, h0, h1, h2⟩, trivial⟩
theorem Fill.fn_of {fl : Fill} {n : Int} {v : Tm} (h : fl.val n = some v) : fl.fn n = v := by unfold Fill.fn; rw [h]; rfl
/-- a fitting that is told more -/
theorem fit_more {l u : Tm} {fl fl' : Fill} (h : Tm.fit l u = some fl) (hx : ∀ n v, fl.val n = some v → fl'.val n = some v) : Tm.sb fl'.fn l = u := by
  rw [← Tm.fit_sb h]
  refine Tm.sb_congr l fun n hn => ?_
  obtain ⟨v, hv⟩ := (Tm.fit_key h).mp hn
  rw [Fill.fn_of hv, Fill.fn_of (hx n v hv)]
/-- what a fitting tells is made of the term -/
theorem fit_tok {S : List Sg} {B : Int → Prop} {l u : Tm} {fl : Fill} (h : Tm.fit l u = some fl) (hu : TOk S B u) : ∀ n v, fl.val n = some v → TOk S B v ∧ v.size ≤ u.size := fun n v hv => by
  have hn := (Tm.fit_key h (n := n)).mpr ⟨v, hv⟩
  have hs := Tm.fit_sb h
  refine ⟨?_, fit_val_size h hv⟩
  rw [← hs] at hu
  have := TOk.sb_inv l hu n hn
  rw [Fill.fn_of hv] at this
  exact this
theorem put_depth (v : Tm) : ∀ (p : List Nat) (s : Tm), (Tm.put s p v).depth ≤ s.depth + v.depth := by
  intro p
  induction p with
  | nil => intro s; rw [put_nil]; omega
  | cons k p ih =>
    intro s
    cases s with
    | bl n => rw [Tm.put]; omega
    | fn f ts =>
      rw [Tm.put]
      cases e : ts[k - 1]? with
      | none => exact Nat.le_add_right _ _
      | some t =>
        have h1 := depthL_set (ts := ts) (i := k - 1) (u := Tm.put t p v)
        have h2 := ih t
        have h3 := Tm.depth_le_of_mem (List.mem_of_getElem? e)
        simp only
        rw [Tm.depth, Tm.depth]
        omega
namespace Tm
mutual
theorem fitT_nodup : ∀ (p t : Tm) (fl fl' : Fill), (fl.map (·.1)).Nodup → fitT p t fl = some fl' → (fl'.map (·.1)).Nodup
  | .bl n, t, fl, fl', hn, h => by
    rw [fitT] at h
    split at h
    · cases h; exact Fill.put_keys hn
    · cases h
  | .fn _ _, .bl _, _, _, _, h => by rw [fitT] at h; cases h
  | .fn f ss, .fn g ts, fl, fl', hn, h => by
    rw [fitT] at h
    split at h
    · exact fitL_nodup ss ts fl fl' hn h
    · cases h
theorem fitL_nodup : ∀ (ps ts : List Tm) (fl fl' : Fill), (fl.map (·.1)).Nodup → fitL ps ts fl = some fl' → (fl'.map (·.1)).Nodup
  | [], [], fl, fl', hn, h => by rw [fitL] at h; cases h; exact hn
  | [], _ :: _, fl, fl', hn, h => by rw [fitL] at h <;> first | (cases h; exact hn) | (intros; contradiction)
  | _ :: _, [], fl, fl', hn, h => by rw [fitL] at h <;> first | (cases h; exact hn) | (intros; contradiction)
  | p :: ps, t :: ts, fl, fl', hn, h => by
    rw [fitL] at h
    cases e : fitL ps ts fl with
    | none => rw [e] at h; cases h
    | some fl1 =>
      rw [e] at h
      exact fitT_nodup p t fl1 fl' (fitL_nodup ps ts fl fl1 hn e) h
end
end Tm
theorem fit_nodup {s t : Tm} {fl : Fill} (h : Tm.fit s t = some fl) : (fl.map (·.1)).Nodup := Tm.fitT_nodup _ _ _ _ (by simp) h
/-- a filling that is told more and more -/
structure FlX (S : List Sg) (fl fl' : Fill) (j : Nat) : Prop where
  nod : (fl'.map (·.1)).Nodup
  tok : ∀ p ∈ fl', TOk S anyB p.2 ∧ p.2.size ≤ 60
  ext : ∀ n v, fl.val n = some v → fl'.val n = some v
  len : fl'.length ≤ fl.length + j
theorem FlX.start {S : List Sg} {l u : Tm} {fl : Fill} (h : Tm.fit l u = some fl) (hu : TOk S anyB u) (hz : u.size ≤ 60) : FlX S fl fl 0 :=
  ⟨fit_nodup h, fun p hp => by
    have := fit_tok h hu p.1 p.2 (Fill.val_of (fit_nodup h) hp)
    exact ⟨this.1, Nat.le_trans this.2 hz⟩, fun _ _ h => h, Nat.le_refl _⟩
theorem FlX.put {S : List Sg} {fl fl' : Fill} {j : Nat} {n : Int} {v : Tm} (h : FlX S fl fl' j) (hn : fl'.val n = none) (hv : TOk S anyB v) (hz : v.size ≤ 60) : FlX S fl (fl'.put n v) (j + 1) := by
  refine ⟨Fill.put_keys h.nod, Fill.put_all h.tok ⟨hv, hz⟩, fun m x hx => ?_, ?_⟩
  · have := h.ext m x hx
    rw [Fill.val_put]
    by_cases z : n = m
    · subst z; rw [hn] at this; cases this
    · rw [if_neg z]; exact this
  · have := Fill.put_length fl' n v
    have := h.len
    omega
theorem FlX.mono {S : List Sg} {fl fl' : Fill} {i j : Nat} (h : FlX S fl fl' i) (hij : i ≤ j) : FlX S fl fl' j := ⟨h.nod, h.tok, h.ext, by have := h.len; omega⟩
theorem FlX.fn {S : List Sg} {fl fl' : Fill} {j : Nat} (h : FlX S fl fl' j) (n : Int) : TOk S anyB (fl'.fn n) := by
  unfold Fill.fn
  cases e : fl'.val n with
  | none => exact .bl trivial
  | some v => exact (h.tok _ (Fill.val_mem e)).1
theorem part_tok {S : List Sg} {B : Int → Prop} : ∀ {p : List Nat} {t u : Tm}, TOk S B t → Tm.part t p = some u → TOk S B u
  | [], t, u, h, e => by rw [part_nil] at e; cases e; exact h
  | k :: p, .bl n, u, h, e => by rw [Tm.part] at e; cases e
  | k :: p, .fn f ts, u, h, e => by
    rw [Tm.part] at e
    split at e
    · cases e
    · cases e2 : ts[k - 1]? with
      | none => rw [e2] at e; cases e
      | some t => rw [e2] at e; exact part_tok (h.arg e2) e
theorem put_tok {S : List Sg} {B : Int → Prop} {v : Tm} (hv : TOk S B v) : ∀ {p : List Nat} {t : Tm}, TOk S B t → TOk S B (Tm.put t p v)
  | [], t, h => by rw [put_nil]; exact hv
  | k :: p, .bl n, h => by rw [Tm.put]; exact h
  | k :: p, .fn f ts, h => by
    rw [Tm.put]
    cases e2 : ts[k - 1]? with
    | none => exact h
    | some t => exact h.set (put_tok hv (h.arg e2))
end Rw
/-! defs that are called while an exception is handled; try within an except suite; exceptions whose context is told -/
namespace Rw
open PySem L2 PySem.Spec PyProof.Rows
/-! ### try .. except C within a suite: what is pinned stays pinned in its body, and all that it lets out is caught -/
theorem fly_off {B h : Heap} {l : List Env} {a : Addr} {Z : Obj → Prop} (fl : HandSPX.FlyingZ B l a Z h) : ∃ oe vs, h.get? a = some oe ∧ Z oe ∧ oe.data = .fields vs ∧ a ∉ frs l := by
  obtain ⟨o, vs, ho, hz, hv⟩ := fl.there
  refine ⟨o, vs, ho, hz, hv, fun z => ?_⟩
  obtain ⟨-, o2, e2, no⟩ := fl.2.2.1.mem z
  exact no vs ((congrArg Obj.data (Option.some.inj (e2.symm.trans ho))).trans hv)
theorem sp_untr {X : Cx} {pins : List (Addr × Obj)} {xe : Value → Shared → Prop} {D : Ends} (ok : X.Ok) {f : Flow} {s : Shared} (h : SP (X.tr (X.pn ++ pins) xe) [] D f s) : SP X pins D f s := by
  cases f
  case ret u =>
    obtain ⟨y, τ, G, J, h1, h2⟩ := h
    exact ⟨y, τ, G, Inv.ofTry J ok, h1, h2⟩
  all_goals
    obtain ⟨τ, G, J, h2⟩ := h
    exact ⟨τ, G, Inv.ofTry J ok, h2⟩
theorem sp_unsuite {X : Cx} {pins : List (Addr × Obj)} {a : Addr} {o : Obj} {D : Ends} (ok : X.Ok) {f : Flow} {s : Shared} (h : SP (X.suite a ((a, o) :: (X.pn ++ pins))) [] D f s) : SP X pins D f s := by
  cases f
  case ret u =>
    obtain ⟨y, τ, G, J, h1, h2⟩ := h
    exact ⟨y, τ, G, Inv.unsuite J ok, h1, h2⟩
  all_goals
    obtain ⟨τ, G, J, h2⟩ := h
    exact ⟨τ, G, Inv.unsuite J ok, h2⟩
theorem ld_named {X : Cx} {x : Str} {c : Value} {np : Pos} {a : Addr} {pn pins : List (Addr × Obj)} {τ : L2.St} {G : Hp} {s : Shared} {Q E : Value → Shared → Prop} (I : Inv (X.suite a pn) pins τ G s) (nm : Names X x c) (q : Q c s) :
    wpAny (model X.prog X.w) (X.A.mark (some (.ref a))) (eval (.Name x np) X.env) Q E s := by
  obtain ⟨gl, nd, z | ⟨z, zv, zn⟩⟩ := nm
  · exact ld_glob (X := X.suite a pn) I gl z q nd
  · exact ld_blt (X := X.suite a pn) I gl z zv q zn nd
def wAll (K : PySem.W.Frag) (c : Value) (ts : TS) (D : Ends) : WX := fun k _ τ G => PySem.W.exmOne K k c = some true ∧ ts D τ G
theorem ps_tryC {X : Cx} {x : Str} {c : Value} {bd rest : List Stmt} {st1 : Stmt} {np pt ph : Pos} {tb : WX → TS} {ts : TS} (est : X.stack = X.env :: X.outer) (efr : X.env.frame = some X.env.locals) (nm : Names X x c)
    (hbd : ∀ (W : WX) (pn : List (Addr × Obj)) (xe : Value → Shared → Prop), (∀ q ∈ X.pn, q ∈ pn) → Takes (X.tr pn xe) W → PSs (X.tr pn xe) bd (tb W))
    (hsu : ∀ (a : Addr) (o : Obj) (pn : List (Addr × Obj)), PSs (X.suite a ((a, o) :: pn)) (st1 :: rest) ts) :
    PS X (.Try bd [.ExceptHandler (some (.Name x np)) none (st1 :: rest) ph] [] [] pt) (fun D τ G => tb (wAll X.K c ts D) D τ G) := by
  constructor
  intro pins s τ G D I h
  have ok := I.ok
  have fr2 : X.A.frames = some (X.env :: X.outer) := ok.frames.trans (congrArg some est)
  apply wpAny_Try_except
  refine wpAny_mono ((hbd (wAll X.K c ts D) (X.pn ++ pins) _ (fun q z => List.mem_append.mpr (.inl z)) ?_).run [] s τ G D (I.toTry _) h) ?_ (fun _ _ z => z)
  · rintro u t ⟨a, B, t0, ps, τ1, G1, k, d, rfl, J1, nb, up, sky, na, os, ag, hk, hts⟩
    have J : Inv X pins τ1 G1 t0 := J1.ofTry ok
    rw [show (X.tr (X.pn ++ pins) _).stack = X.env :: X.outer from est] at sky
    refine Sky.land Zc.steady fr2 efr sky fun g fl upg => ?_
    have Jg := J.landed (s' := { t with heap := g }) nb fl.1 (up.trans upg) os ag
    obtain ⟨o, vs, ho, hz, hv, nst⟩ := fly_off fl
    have n1 : a ≠ X.env.locals := fun z => nst (by unfold frs; rw [List.filterMap_cons, efr, z]; exact List.mem_cons_self)
    have n2 : a ∉ X.fs := fun z => nst (by unfold frs; rw [List.filterMap_cons, efr]; exact List.mem_cons_of_mem _ z)
    have Sg := Jg.suite ho hv na n1 n2
    refine wpAny_handleBy_cons (codeAny_handlers_test ?_) (fun z => by cases z)
    have look := PySem.W.exm_one (M := model X.prog X.w) Jg.kIn (fun A Q E s k' q => wpAny_typeOf_ref (k' _ _ ho) (by rw [hz.1]; exact q)) hk
    refine ld_named Sg nm (look.here (codeAny_handlers_suite ?_))
    refine HandSPX.lands_againZ fl fun g2 fl2 up2 => ?_
    have J2 := J.landed (s' := { t with heap := g2 }) nb fl2.1 ((up.trans upg).trans up2) os ag
    obtain ⟨o2, vs2, ho2, hz2, hv2, -⟩ := fly_off fl2
    exact wpAny_mono ((hsu a o2 _).run [] _ _ _ D (J2.suite ho2 hv2 na n1 n2) hts) (fun f t2 hf => sp_unsuite ok hf) fun _ _ z => z.elim
  · intro f t hf
    have hf := sp_untr ok hf
    cases f
    case next => exact wpAny_execs_nil hf
    all_goals exact hf
def aTryC (K : PySem.W.Frag) (mg : Str → Option Value) (y : Str) (t ts : ATS) : ATS := fun D ρ G => t { D with ex := fun c ρ' G' => ∀ D', mg y = some D' → PySem.W.exmOne K c D' = some true ∧ ts (noX D) ρ' G' } ρ G
section
variable {X : Cx} {W : WW}
theorem as_tryC {x : Str} {bd rest : List Stmt} {st1 : Stmt} {np pt ph : Pos} {t ts : ATS} (e : XcAt X.K X.mg x) (est : X.stack = X.env :: X.outer) (efr : X.env.frame = some X.env.locals)
    (hbd : ∀ (W' : WW) (pn : List (Addr × Obj)) (xe : Value → Shared → Prop), (∀ q ∈ X.pn, q ∈ pn) → Tk (X.tr pn xe) W' → ASs (X.tr pn xe) W' bd t)
    (hsu : ∀ (a : Addr) (pn : List (Addr × Obj)), ASs (X.suite a pn) W0 (st1 :: rest) ts) {K : PySem.W.Frag} {mg : Str → Option Value} (eK : X.K = K := by rfl) (em : X.mg = mg := by rfl) (gl : Gl X x := by rfl) (nd : (x == ("__debug__" : Str)) = false := by decide) :
    AS X W (.Try bd [.ExceptHandler (some (.Name x np)) none (st1 :: rest) ph] [] [] pt) (aTryC K mg x t ts) := by
  subst eK em
  obtain ⟨C, gC, -⟩ := e.ex
  refine psI (ps_tryC (c := .ref C) (tb := fun V => lowS X.K (fun k τ F => V k none τ F) t) (ts := lowS X.K W0 ts) est efr ⟨gl, nd, .inl gC⟩ (fun V pn xe hq tk => hbd _ pn xe hq (tk.imp fun k d τ F ⟨z, h⟩ => by subst z; exact h)) fun a o pn => hsu a _) ?_
  rintro D τ F ⟨ρ, G, D0, k1, k2, k3, k4⟩
  refine ⟨ρ, G, _, k1, k2, k3, k4.nx, k4.rt, k4.bk, k4.ct, fun k ρ' G' τ' F' he e2 g2 s2 => ?_⟩
  obtain ⟨h1, h2⟩ := he _ gC
  have l := k4.up e2
  exact ⟨h1, ρ', G', noX D0, s2, g2, h2, l.nx, l.rt, l.bk, l.ct, fun _ _ _ _ _ z => z.elim⟩
end
/-! ### defs called while an exception is handled -/
abbrev hX (P : Program) (w : World) (K : PySem.W.Frag) (mg : Str → Option Value) (base : Heap) (N : List Str) (qual : Str) (st : Stmt) (f : Addr) (cdv : Value) (A : Around) (outer : List Env) (s : Shared) (H : Hp) (E : XK) (q : Addr × Obj) : Cx :=
  L2H.cxH (L2.CX P w) P w K mg base N qual (defScope st) f cdv A outer s H E q
structure DefH (P : Program) (w : World) (K : PySem.W.Frag) (mg : Str → Option Value) (base : Heap) (k : Nat) (x : Str) (asp : ASp) : Prop where
  ex : ∃ (f : Addr) (fd : FuncData) (ps : List Str), L2H.FnH P w K mg base (L2.CX P w) k f fd ps (lowF K asp) ∧ mg x = some (.ref f) ∧ PySem.W.keepIn K (.ref f) = true ∧ Binds K fd ps []
section
variable {P : Program} {w : World} {K : PySem.W.Frag} {mg : Str → Option Value} {base : Heap}
theorem DefAt.hot {x : Str} {st : Stmt} {N ps : List Str} {k : Nat} {asp : ASp} (T : DefAt K mg x st ps) (S : FnScope N ps (defScope st)) (len : ∀ xs G Q E, asp xs G Q E → xs.length = ps.length)
    (hbody : ∀ (f : Addr) (cdv : Value) (A : Around) (outer : List Env) (s : Shared) (H : Hp) (E : XK) (q : Addr × Obj) (W : WW), Tk (hX P w K mg base N x st f cdv A outer s H E q) W →
      L2H.HotC (hX P w K mg base N x st f cdv A outer s H E q) → L2H.RoomH k (hX P w K mg base N x st f cdv A outer s H E q).A → ∀ xs G Q0 E0, asp xs G Q0 E0 →
      ∃ t, ASs (hX P w K mg base N x st f cdv A outer s H E q) W (defBody st) t ∧ t { nx := fun _ G' => dropQ Q0 .non G', rt := dropQ Q0, ex := fun c _ G' => dropE E0 c G' } (startA N xs) G) :
    DefH P w K mg base (k + 1) x asp := by
  obtain ⟨f, fd, F, hm, hb, -⟩ := T.ex
  obtain ⟨oc, od, kV, doc, pm, an, cdv, ct, osl, e, lk, hcd⟩ := F.ex
  subst e
  refine ⟨f, _, ps, L2H.fn_ofH lk hcd S (fun vs H Q E ⟨xs, G, Q0, E0, r, _, h, _⟩ => r.length.trans (len _ _ _ _ h)) ?_, hm, F.kp, hb⟩
  rintro A outer s H vs Q E q hot hr ⟨xs, G, Q0, E0, r, hg, h, hq, he⟩
  have tk : Tk (hX P w K mg base N x st f cdv A outer s H E q) (fun c _ H' => E c none H') :=
    Takes.imp (takes_of rfl rfl rfl rfl : Takes (hX P w K mg base N x st f cdv A outer s H E q) (fun cls d _ H => E cls d H)) fun c d τ H' ⟨z, y⟩ => by subst z; exact y
  obtain ⟨t, ht, hD⟩ := hbody f cdv A outer s H E q _ tk ⟨q, hot, List.mem_singleton.mpr rfl⟩ hr xs G Q0 E0 h
  have hl : vs.length ≤ N.length := by
    have := congrArg List.length S.pre
    rw [List.length_take] at this
    have := len _ _ _ _ h
    rw [r.length]
    omega
  exact ⟨_, ht, startA N xs, G, _, startA_sim r hl, hg, hD, fun ρ' G' τ' H' a b c d => hq.drop _ _ _ _ a b c .non, hq.drop, fun _ _ _ _ z => z.elim, fun _ _ _ _ z => z.elim, fun c ρ' G' τ' H' a b d _ => he.drop c G' H' a b d⟩
theorem DefAt.hot1 {x : Str} {st : Stmt} {N ps : List Str} {k : Nat} {p : P1} (T : DefAt K mg x st ps) (S : FnScope N ps (defScope st)) (hl : ps.length = 1)
    (hbody : ∀ (f : Addr) (cdv : Value) (A : Around) (outer : List Env) (s : Shared) (H : Hp) (E : XK) (q : Addr × Obj) (W : WW), Tk (hX P w K mg base N x st f cdv A outer s H E q) W →
      L2H.HotC (hX P w K mg base N x st f cdv A outer s H E q) → L2H.RoomH k (hX P w K mg base N x st f cdv A outer s H E q).A → ∀ x1 G Q0 E0, p x1 G Q0 E0 →
      ∃ t, ASs (hX P w K mg base N x st f cdv A outer s H E q) W (defBody st) t ∧ t { nx := fun _ G' => dropQ Q0 .non G', rt := dropQ Q0, ex := fun c _ G' => dropE E0 c G' } (startA N [x1]) G) :
    DefH P w K mg base (k + 1) x (sp1 p) := by
  refine T.hot S (fun xs G Q E h => ?_) (fun f cdv A outer s H E q W tk hc hr xs G Q0 E0 h => ?_)
  all_goals
    unfold sp1 at h
    split at h
    · first | exact hl.symm | exact hbody f cdv A outer s H E q W tk hc hr _ G Q0 E0 h
    · exact h.elim
theorem DefAt.hot3 {x : Str} {st : Stmt} {N ps : List Str} {k : Nat} {p : P3} (T : DefAt K mg x st ps) (S : FnScope N ps (defScope st)) (hl : ps.length = 3)
    (hbody : ∀ (f : Addr) (cdv : Value) (A : Around) (outer : List Env) (s : Shared) (H : Hp) (E : XK) (q : Addr × Obj) (W : WW), Tk (hX P w K mg base N x st f cdv A outer s H E q) W →
      L2H.HotC (hX P w K mg base N x st f cdv A outer s H E q) → L2H.RoomH k (hX P w K mg base N x st f cdv A outer s H E q).A → ∀ x1 x2 x3 G Q0 E0, p x1 x2 x3 G Q0 E0 →
      ∃ t, ASs (hX P w K mg base N x st f cdv A outer s H E q) W (defBody st) t ∧ t { nx := fun _ G' => dropQ Q0 .non G', rt := dropQ Q0, ex := fun c _ G' => dropE E0 c G' } (startA N [x1, x2, x3]) G) :
    DefH P w K mg base (k + 1) x (sp3 p) := by
  refine T.hot S (fun xs G Q E h => ?_) (fun f cdv A outer s H E q W tk hc hr xs G Q0 E0 h => ?_)
  all_goals
    unfold sp3 at h
    split at h
    · first | exact hl.symm | exact hbody f cdv A outer s H E q W tk hc hr _ _ _ G Q0 E0 h
    · exact h.elim
end
section
variable {X : Cx} {W : WW} {k : Nat} {x : Str} {asp : ASp} {p pos : Pos} {e : Expr} {es : List Expr} {t : ATA}
theorem ae_callH (D : DefH X.prog X.w X.K X.mg X.base k x asp) (hr : L2H.RoomH k X.A) (hc : L2H.HotC X) (tk : Tk X W) (ha : AArgs X W (e :: es) t) (gl : Gl X x := by rfl)
    (nd : (x == ("__debug__" : Str)) = false := by decide) (h1 : starEach (e :: es) X.env = (false, eval e X.env) :: starEach es X.env := by rfl) (h2 : (backTo pos (starEach es X.env)).any (·.1) = false := by rfl) :
    AE X W (.Call (.Name x p) (e :: es) [] pos) (aCall asp t) := by
  obtain ⟨f, fd, ps, F, hm, hk, hb⟩ := D.ex
  exact peI (L2H.pe_callH F hr hc gl hm hk hb (fun τ => passAt tk τ) ha nd h1 h2) fun _ _ _ => lift_call
theorem as_raiseH {m : Str} {j : Nat} {p2 pos' : Pos} (hc : L2H.HotC X) (tk : Tk X W) (e : XcAt X.K X.mg x) (gl : Gl X x := by rfl) (nd : (x == ("__debug__" : Str)) = false := by decide) :
    AS X W (.Raise (some (.Call (.Name x p) [.Constant (.str m) j p2] [] pos)) none pos') (aRaise X.mg x) := by
  obtain ⟨C, gC, q, kC, bP, tP, -⟩ := e.ex
  refine psI (L2H.ps_raiseH hc tk (L2N.pmk_own PySem.F.excBase_ValueError q gC kC (raises_own bP tP) gl nd)) ?_
  rintro D τ F ⟨ρ, G, D0, k1, k2, k3, k4⟩
  exact ⟨rfl, k4.ex _ ρ G τ F (k3 _ gC) .refl k2 k1⟩
theorem at_eqH {a b : Expr} {ta tb : AT} (hr : L2H.RoomH (k + 4) X.A) (ha : AE X W a ta) (hb : AE X W b tb) : ATest X W (.Compare a [.Eq] [b] pos) (aTest (aOp2 (fEq false) ta tb)) :=
  at_cmp (op_eq.or (op_eqD' (by have := hr.un; omega))) lf_eq ha hb
/-! ### exceptions whose context is told -/
abbrev TkN (X : Cx) (W : WW) : Prop := L2N.Takes X fun c d τ F => d = none ∧ W c τ F
theorem as_raiseN {m : Str} {j : Nat} {p2 pos' : Pos} (hc : X.calm = true) (tk : TkN X W) (e : XcAt X.K X.mg x) (gl : Gl X x := by rfl) (nd : (x == ("__debug__" : Str)) = false := by decide) :
    AS X W (.Raise (some (.Call (.Name x p) [.Constant (.str m) j p2] [] pos)) none pos') (aRaise X.mg x) := by
  obtain ⟨C, gC, q, kC, bP, tP, -⟩ := e.ex
  refine psI (L2N.ps_raise hc tk (L2N.pmk_own PySem.F.excBase_ValueError q gC kC (raises_own bP tP) gl nd)) ?_
  rintro D τ F ⟨ρ, G, D0, k1, k2, k3, k4⟩
  exact ⟨rfl, k4.ex _ ρ G τ F (k3 _ gC) .refl k2 k1⟩
/-- a call of a def that lets nothing out -/
def aCallQ (asp : ASp) (t : ATA) : AT := fun ρ G Q E => t ρ G (fun xs G1 => asp xs G1 Q fun _ _ => False) E
theorem ae_callQ (D : DefOk X.prog X.w X.K X.mg X.base k x asp) (hr : Room k X.A) (ha : AArgs X W (e :: es) t) (gl : Gl X x := by rfl)
    (nd : (x == ("__debug__" : Str)) = false := by decide) (h1 : starEach (e :: es) X.env = (false, eval e X.env) :: starEach es X.env := by rfl) (h2 : (backTo pos (starEach es X.env)).any (·.1) = false := by rfl) :
    AE X W (.Call (.Name x p) (e :: es) [] pos) (aCallQ asp t) := by
  obtain ⟨f, fd, ps, F, hm, hk, hb, -⟩ := D.ex
  refine peI (pe_callS (E := fun _ _ _ _ => False) F hr gl hm hk hb (fun τ => ?_) ha nd h1 h2) ?_
  · rintro pins H s u t I ⟨_, _, _, _, _, _, _, _, _, _, _, _, z⟩
    exact z.elim
  · rintro τ F' Q ⟨ρ, G, Q0, E0, k1, k2, k3, k4, k5⟩
    refine ⟨ρ, G, _, E0, k1, k2, k3, ?_, k5⟩
    intro xs G1 vs H1 q1 q2 q3 q4
    exact ⟨xs, G1, Q0, _, q4, q3, q1, k4.up q2, fun _ _ _ z => z.elim⟩
end
structure DefN (P : Program) (w : World) (K : PySem.W.Frag) (mg : Str → Option Value) (base : Heap) (k : Nat) (x : Str) (asp : ASp) : Prop where
  ex : ∃ (f : Addr) (fd : FuncData) (ps : List Str), FnOk P w K mg base (L2N.CX P w) k f fd ps (lowF K asp) ∧ mg x = some (.ref f) ∧ PySem.W.keepIn K (.ref f) = true ∧ Binds K fd ps []
abbrev nX (P : Program) (w : World) (K : PySem.W.Frag) (mg : Str → Option Value) (base : Heap) (N : List Str) (qual : Str) (st : Stmt) (f : Addr) (cdv : Value) (A : Around) (outer : List Env) (s : Shared) (H : Hp) (E : XK) : Cx :=
  cxOf (L2N.CX P w) P w K mg base N qual (defScope st) f cdv A outer s H E
section
variable {P : Program} {w : World} {K : PySem.W.Frag} {mg : Str → Option Value} {base : Heap}
theorem DefAt.nok2 {x : Str} {st : Stmt} {N ps : List Str} {k : Nat} {p : P2} (T : DefAt K mg x st ps) (S : FnScope N ps (defScope st)) (hl : ps.length = 2)
    (hbody : ∀ (f : Addr) (cdv : Value) (A : Around) (outer : List Env) (s : Shared) (H : Hp) (E : XK) (W : WW), TkN (nX P w K mg base N x st f cdv A outer s H E) W →
      PassesOwn (model P w) (nX P w K mg base N x st f cdv A outer s H E).A (nX P w K mg base N x st f cdv A outer s H E).env (nX P w K mg base N x st f cdv A outer s H E).xe →
      Room k (nX P w K mg base N x st f cdv A outer s H E).A → ∀ x1 x2 G Q0 E0, p x1 x2 G Q0 E0 →
      ∃ t, ASs (nX P w K mg base N x st f cdv A outer s H E) W (defBody st) t ∧ t { nx := fun _ G' => dropQ Q0 .non G', rt := dropQ Q0, ex := fun c _ G' => dropE E0 c G' } (startA N [x1, x2]) G) :
    DefN P w K mg base (k + 1) x (sp2 p) := by
  obtain ⟨f, fd, F, hm, hb, -⟩ := T.ex
  obtain ⟨oc, od, kV, doc, pm, an, cdv, ct, osl, e, lk, hcd⟩ := F.ex
  subst e
  have len : ∀ xs G Q E, sp2 p xs G Q E → xs.length = ps.length := fun xs G Q E h => by
    unfold sp2 at h
    split at h
    · exact hl.symm
    · exact h.elim
  refine ⟨f, _, ps, fn_of lk hcd S (fun vs H Q E ⟨xs, G, Q0, E0, r, _, h, _⟩ => r.length.trans (len _ _ _ _ h)) ?_, hm, F.kp, hb⟩
  rintro A outer s H vs Q E hr ⟨xs, G, Q0, E0, r, hg, h, hq, he⟩
  have tk : TkN (nX P w K mg base N x st f cdv A outer s H E) (fun c _ H' => E c none H') :=
    L2N.Takes.imp (L2N.takes_of rfl rfl rfl rfl : L2N.Takes (nX P w K mg base N x st f cdv A outer s H E) (fun cls d _ H => E cls d H)) fun c d τ H' ⟨z, y⟩ => by subst z; exact y
  have hl2 : vs.length ≤ N.length := by
    have := congrArg List.length S.pre
    rw [List.length_take] at this
    have := len _ _ _ _ h
    rw [r.length]
    omega
  have hs := startA_sim r hl2
  unfold sp2 at h
  split at h
  · obtain ⟨t, ht, hD⟩ := hbody f cdv A outer s H E _ tk (passes_of rfl) hr _ _ G Q0 E0 h
    exact ⟨_, ht, startA N _, G, _, hs, hg, hD, fun ρ' G' τ' H' a b c d => hq.drop _ _ _ _ a b c .non, hq.drop, fun _ _ _ _ z => z.elim, fun _ _ _ _ z => z.elim, fun c ρ' G' τ' H' a b d _ => he.drop c G' H' a b d⟩
  · exact h.elim
end
section
variable {X : Cx} {W : WW} {k : Nat} {x : Str} {asp : ASp} {p pos : Pos} {e : Expr} {es : List Expr} {t : ATA}
theorem ae_callN (D : DefN X.prog X.w X.K X.mg X.base k x asp) (hr : Room k X.A) (tk : TkN X W) (ha : AArgs X W (e :: es) t) (gl : Gl X x := by rfl)
    (nd : (x == ("__debug__" : Str)) = false := by decide) (h1 : starEach (e :: es) X.env = (false, eval e X.env) :: starEach es X.env := by rfl) (h2 : (backTo pos (starEach es X.env)).any (·.1) = false := by rfl) :
    AE X W (.Call (.Name x p) (e :: es) [] pos) (aCall asp t) := by
  obtain ⟨f, fd, ps, F, hm, hk, hb⟩ := D.ex
  exact peI (pe_callS F hr gl hm hk hb (fun τ => L2N.passAt tk τ) ha nd h1 h2) fun _ _ _ => lift_call
/-! ### try .. except C as n, all caught; its suite runs hot -/
def aTryE (K : PySem.W.Frag) (mg : Str → Option Value) (y : Str) (i : Nat) (t : ATS) (ts : Addr → Value → ATS) : ATS := fun D ρ G => t { D with ex := fun c ρ' G' => ∀ D', mg y = some D' → PySem.W.exmOne K c D' = some true ∧ (∀ a, G' a = none → ts a c { nx := fun ρ2 G2 => D.nx (ρ2.set i none) G2, rt := D.rt, bk := fun ρ2 G2 => D.bk (ρ2.set i none) G2, ct := fun ρ2 G2 => D.ct (ρ2.set i none) G2, ex := fun _ _ _ => False } (ρ'.set i (some (.ref a))) G') } ρ G
theorem as_tryE {i : Nat} {n : Str} {bd rest : List Stmt} {st1 : Stmt} {np pt ph : Pos} {t : ATS} {ts : Addr → Value → ATS} (e : XcAt X.K X.mg x) (est : X.stack = X.env :: X.outer) (efr : X.env.frame = some X.env.locals) (hN : X.N.Nodup) (hi : X.N[i]? = some n) (hln : X.env.kindOf n = some .local)
    (hbd : ∀ (W' : WW) (pn : List (Addr × Obj)) (xe : Value → Shared → Prop), TkN (X.tr pn xe) W' → PassesOwn (model X.prog X.w) X.A X.env xe → ASs (X.tr pn xe) W' bd t)
    (hsu : ∀ (a : Addr) (o : Obj) (c : Value) (pn : List (Addr × Obj)), L2H.HotC (X.suite a ((a, o) :: pn)) → Zc c none o → (∃ vs, o.data = .fields vs) → ASs (X.suite a ((a, o) :: pn)) W0 (st1 :: rest) (ts a c)) (gl : Gl X x := by rfl) (nd : (x == ("__debug__" : Str)) = false := by decide) :
    AS X W (.Try bd [.ExceptHandler (some (.Name x np)) (some n) (st1 :: rest) ph] [] [] pt) (aTryE X.K X.mg x i t ts) := by
  obtain ⟨C, gC, -⟩ := e.ex
  refine psI (L2N.ps_try_as (i := i) (c := .ref C) (Wout := fun _ _ _ _ => False) (tb := fun V => lowS X.K (fun k τ F => V k none τ F) t) (ts := fun a c d D τ F => d = none ∧ lowS X.K W0 (ts a c) D τ F) est efr hN hi hln ⟨gl, nd, .inl gC⟩ ?_
    (fun V pn xe tk po => hbd _ pn xe (tk.imp fun k d τ F ⟨z, h⟩ => by subst z; exact h) po) fun a o c d pn hz hv => ?_) ?_
  · rintro u s ⟨_, _, _, _, _, _, _, _, _, _, _, _, _, _, _, _, z⟩
    exact z.elim
  · constructor
    rintro pins s τ F D I ⟨rfl, h⟩
    obtain ⟨vs, hvs⟩ := hv
    exact (hsu a o c pn ⟨(a, o), ⟨rfl, vs, hvs, hz.2.2 vs hvs⟩, List.mem_cons_self⟩ hz.zc ⟨vs, hvs⟩).run pins s τ F D I h
  rintro D τ F ⟨ρ, G, D0, k1, k2, k3, k4⟩
  refine ⟨ρ, G, _, k1, k2, k3, k4.nx, k4.rt, k4.bk, k4.ct, fun k ρ' G' τ' F' he e2 g2 s2 => ?_⟩
  obtain ⟨h1, h2⟩ := he _ gC
  have l := k4.up e2
  exact ⟨true, h1, fun _ a ha => ⟨rfl, _, G', _, s2.set i (.ref a), g2, h2 a (g2.none ha), fun ρ2 G2 τ2 F2 a b c d => l.nx _ _ _ _ a b c (d.unset i), l.rt, fun ρ2 G2 τ2 F2 a b c d => l.bk _ _ _ _ a b c (d.unset i), fun ρ2 G2 τ2 F2 a b c d => l.ct _ _ _ _ a b c (d.unset i), fun _ _ _ _ _ z => z.elim⟩, fun z => by cases z⟩
theorem hot_tr {pn : List (Addr × Obj)} {xe : Value → Shared → Prop} (h : L2H.HotC X) (hq : ∀ q ∈ X.pn, q ∈ pn) : L2H.HotC (X.tr pn xe) := by
  obtain ⟨p, h1, h2⟩ := h
  exact ⟨p, h1, hq p h2⟩
theorem room_hot {a : Addr} {pn : List (Addr × Obj)} (hr : Room k X.A) : L2H.RoomH k (X.suite a pn).A := ⟨hr.dp, hr.un⟩
end
end Rw
/-! places that a term has not (k02) -/
namespace Rw
open PySem L2
theorem partI_on : ∀ (p : List Nat) (q : List Int) {t u : Tm}, Tm.part t p = some u → Tm.partI t ((p.map fun k : Nat => (k : Int)) ++ q) = Tm.partI u q
  | [], q, t, u, h => by rw [part_nil] at h; cases h; rfl
  | k :: p, q, .bl n, u, h => by rw [Tm.part] at h; cases h
  | k :: p, q, .fn f ts, u, h => by
    rw [List.map_cons, List.cons_append, Tm.partI]
    rw [Tm.part] at h
    split at h
    · cases h
    · rename_i h0
      cases e : ts[k - 1]? with
      | none => rw [e] at h; cases h
      | some v =>
        rw [e] at h
        have hi := (List.getElem?_eq_some_iff.mp e).1
        rw [if_pos (by omega), show ((k : Nat) : Int).toNat - 1 = k - 1 by omega, e]
        exact partI_on p q h
/-- what stands one too far: 0, -1, or beyond the last -/
def OddK (u : Tm) (c : Int) : Prop := ∀ f ts, u = .fn f ts → ¬ (1 ≤ c ∧ c < (ts.length : Int) + 1)
theorem odd_none {t u : Tm} {p : List Nat} {c : Int} (h : Tm.part t p = some u) (ho : OddK u c) (q : List Int) : Tm.partI t ((p.map fun k : Nat => (k : Int)) ++ c :: q) = none := by
  rw [partI_on p _ h]
  cases u with
  | bl n => rfl
  | fn f ts =>
    rw [Tm.partI, if_neg (ho f ts rfl)]
theorem odd_0 (u : Tm) : OddK u 0 := fun _ _ _ h => by omega
theorem odd_m (u : Tm) : OddK u (-1) := fun _ _ _ h => by omega
theorem odd_bl (n c : Int) : OddK (.bl n) c := fun _ _ h => by cases h
theorem odd_fn {f : Str} {ts : List Tm} {c : Int} (h : (ts.length : Int) + 1 ≤ c) : OddK (.fn f ts) c := fun f' ts' e => by
  cases e
  omega
theorem odd_av {p : List Nat} {c : Int} : AV.tup ((p.map fun k => AV.int (k : Nat)) ++ [AV.int c]) = plI ((p.map fun k : Nat => (k : Int)) ++ [c]) := by
  unfold plI
  rw [List.map_append, List.map_map]
  rfl
end Rw
namespace Rw
open PySem L2
local macro_rules | `(tactic| walk_at "rd") => `(tactic| try simp only [startA, wipeA, List.map_cons, List.map_nil, List.length_cons, List.length_nil, Nat.reduceAdd, Nat.reduceSub, List.replicate_succ, List.replicate_zero, List.replicate, List.cons_append, List.nil_append,
  atX, aSeq, aIf, aRet, aRetN, aExpr, aSet, aAsg, aPar, aNext, aCnt, aCallB, aCons, aNil, aC, aVar, aOp2, aTest, aTruth, aNot, aNeg, aAnd, aOr, aAndV, aOrV, aNotV, aCall, aTup, aLst, aBM, aSlice, aoNo, aoSome, aChain, aFor, aLc, aRevL, aDGet2, aDNew, aDisp, aPairs, srZip, aFld, aPut, aMeth, aMake, aRaise, aTry, noX, srStr, agName, agSub, agTup, agCons, agNil, srTup, srLst, srRng1, srRng2,
  isB_bl, onInt_int, onTup_tup, onRef_ref, onCons_cons, List.getElem?_cons_zero, List.getElem?_cons_succ, List.set_cons_zero, List.set_cons_succ, if_true, if_false, Bool.false_eq_true, reduceIte, ite_true, ite_false, true_and, av_bl, av_fn,
  fIx_tup, fIx_ro, fIx_ref, fIx_str, fSl_tup, fSl_ref, fSl_str, fI_int, fIC_int, fAdd_int, fAdd_str, fAdd_tup, fAdd_ref, fEq_int, fEq_str, fEq_bl, fNe_int, fNe_str, fNe_bl, fEq_ref, fEq_tup, fEq_tup, fIs_non, fIs_int, fIs_tup, fIs_ref, fIn_tup, fIn_ref, fIn_str, tyA_non, tyA_bl, tyA_int, tyA_str, tyA_tup, tyA_ref, fIsi_2, fLen_tup, fLen_ro, fLen_str, fLen_ref, fAbs_int, fMax2_int, fMin2_int, fInt_int, fInt_bl, fList_tup, fList_ref, fRevL_tup, fRevL_ref, fTuple_ref, fTuple_tup, fSum_ref, fAll_ref, fAppend_ref, fExtend_ref, fPop_ref, fJoin_ref, fSetL_ref, truA_bl, truA_non, truA_int, truA_tup, isTy_str, keyA_int, keyA_str, fDGet_ref, fDIn_ref, fDGet2_ref, isDA_ref, fSetD_ref, fDict1_ref, fListD_ref, fEqK_ref, zipR_tup, zipR_ref, fFld_ref, fPut_ref, isIns_ref, fMax1_ref, fMin1_ref, fStr1_int, fCount_ref, fIndex_ref, fPop1_ref, fIsB_bl, aTryAs, aCls, aMakeD, agLst, aForD, fDGetZ_ref, fDInZ_ref, aMaxD, fMaxD_ref, aPv, aPl, fSorted_ref, aTryE, aTryC, aCallQ])
/-! ### the text by places -/
def top (i : Nat) : Stmt := PySem.Challenge.pw_ruleswood_k02_places_of_a_term.main.body.getD i (.Pass ⟨0, 0, 0, 0⟩)
abbrev s_is_blank : Stmt := top 9
abbrev N_is_blank : List Str := ["term"]
theorem sc_is_blank : FnScope N_is_blank ["term"] (defScope s_is_blank) := ⟨rfl, rfl, rfl, by decide +kernel, rfl, by decide +kernel, by decide +kernel⟩
abbrev s_places : Stmt := top 10
abbrev N_places : List Str := ["term", "found", "k", "place"]
theorem sc_places : FnScope N_places ["term"] (defScope s_places) := ⟨rfl, rfl, rfl, by decide +kernel, rfl, by decide +kernel, by decide +kernel⟩
abbrev s_part_at : Stmt := top 11
abbrev N_part_at : List Str := ["term", "place", "k"]
theorem sc_part_at : FnScope N_part_at ["term", "place"] (defScope s_part_at) := ⟨rfl, rfl, rfl, by decide +kernel, rfl, by decide +kernel, by decide +kernel⟩
abbrev s_put_at : Stmt := top 12
abbrev N_put_at : List Str := ["term", "place", "new", "k"]
theorem sc_put_at : FnScope N_put_at ["term", "place", "new"] (defScope s_put_at) := ⟨rfl, rfl, rfl, by decide +kernel, rfl, by decide +kernel, by decide +kernel⟩
abbrev s__law_cell : Stmt := top 14
abbrev N__law_cell : List Str := ["_law_script", "_law_k"]
theorem sc__law_cell : FnScope N__law_cell ["_law_script", "_law_k"] (defScope s__law_cell) := ⟨rfl, rfl, rfl, by decide +kernel, rfl, by decide +kernel, by decide +kernel⟩
abbrev s__law_dice : Stmt := top 15
abbrev N__law_dice : List Str := ["_law_script", "_law_k", "_law_cell_here"]
theorem sc__law_dice : FnScope N__law_dice ["_law_script", "_law_k"] (defScope s__law_dice) := ⟨rfl, rfl, rfl, by decide +kernel, rfl, by decide +kernel, by decide +kernel⟩
abbrev s__law_off : Stmt := top 16
abbrev N__law_off : List Str := ["_law_d", "_law_most", "_law_found", "_law_more"]
theorem sc__law_off : FnScope N__law_off ["_law_d", "_law_most"] (defScope s__law_off) := ⟨rfl, rfl, rfl, by decide +kernel, rfl, by decide +kernel, by decide +kernel⟩
abbrev s__law_names : Stmt := top 17
abbrev N__law_names : List Str := ["_law_d", "_law_many", "_law_letters", "_law_k", "_law_base", "_law_at", "_law_turn", "_law_tails", "_law_found"]
theorem sc__law_names : FnScope N__law_names ["_law_d", "_law_many"] (defScope s__law_names) := ⟨rfl, rfl, rfl, by decide +kernel, rfl, by decide +kernel, by decide +kernel⟩
abbrev s__law_signs : Stmt := top 18
abbrev N__law_signs : List Str := ["_law_d", "_law_many", "_law_turn", "_law_names_here", "_law_most", "_law_k"]
theorem sc__law_signs : FnScope N__law_signs ["_law_d"] (defScope s__law_signs) := ⟨rfl, rfl, rfl, by decide +kernel, rfl, by decide +kernel, by decide +kernel⟩
abbrev s__law_free : Stmt := top 19
abbrev N__law_free : List Str := ["_law_d", "_law_some"]
theorem sc__law_free : FnScope N__law_free ["_law_d"] (defScope s__law_free) := ⟨rfl, rfl, rfl, by decide +kernel, rfl, by decide +kernel, by decide +kernel⟩
abbrev s__law_term : Stmt := top 20
abbrev N__law_term : List Str := ["_law_d", "_law_signs_here", "_law_deep", "_law_free_here", "_law_some", "_law_sign", "_law_k"]
theorem sc__law_term : FnScope N__law_term ["_law_d", "_law_signs_here", "_law_deep", "_law_free_here"] (defScope s__law_term) := ⟨rfl, rfl, rfl, by decide +kernel, rfl, by decide +kernel, by decide +kernel⟩
abbrev s__law_tall : Stmt := top 21
abbrev N__law_tall : List Str := ["_law_d", "_law_term_here", "_law_k"]
theorem sc__law_tall : FnScope N__law_tall ["_law_d", "_law_term_here"] (defScope s__law_tall) := ⟨rfl, rfl, rfl, by decide +kernel, rfl, by decide +kernel, by decide +kernel⟩
abbrev s__law_places : Stmt := top 22
abbrev N__law_places : List Str := ["_law_term_here", "_law_found", "_law_k", "_law_place"]
theorem sc__law_places : FnScope N__law_places ["_law_term_here"] (defScope s__law_places) := ⟨rfl, rfl, rfl, by decide +kernel, rfl, by decide +kernel, by decide +kernel⟩
abbrev s__law_part : Stmt := top 23
abbrev N__law_part : List Str := ["_law_term_here", "_law_place", "_law_k"]
theorem sc__law_part : FnScope N__law_part ["_law_term_here", "_law_place"] (defScope s__law_part) := ⟨rfl, rfl, rfl, by decide +kernel, rfl, by decide +kernel, by decide +kernel⟩
abbrev s__law_put : Stmt := top 24
abbrev N__law_put : List Str := ["_law_term_here", "_law_place", "_law_new", "_law_inner"]
theorem sc__law_put : FnScope N__law_put ["_law_term_here", "_law_place", "_law_new"] (defScope s__law_put) := ⟨rfl, rfl, rfl, by decide +kernel, rfl, by decide +kernel, by decide +kernel⟩
abbrev s__law_same : Stmt := top 25
abbrev N__law_same : List Str := ["_law_found", "_law_due", "_law_part_here", "_law_own"]
theorem sc__law_same : FnScope N__law_same ["_law_found", "_law_due"] (defScope s__law_same) := ⟨rfl, rfl, rfl, by decide +kernel, rfl, by decide +kernel, by decide +kernel⟩
abbrev s__law_refused : Stmt := top 26
abbrev N__law_refused : List Str := ["_law_term_here", "_law_place", "e"]
theorem sc__law_refused : FnScope N__law_refused ["_law_term_here", "_law_place"] (defScope s__law_refused) := ⟨rfl, rfl, rfl, by decide +kernel, rfl, by decide +kernel, by decide +kernel⟩
abbrev s_law : Stmt := top 27
abbrev N_law : List Str := ["_law_script", "_law_signs_here", "_law_free_here", "_law_term_here", "_law_new", "_law_due", "_law_found", "_law_place", "_law_part_here", "_law_made", "_law_beyond", "_law_odd", "_law_k"]
theorem sc_law : FnScope N_law ["_law_script"] (defScope s_law) := ⟨rfl, rfl, rfl, by decide +kernel, rfl, by decide +kernel, by decide +kernel⟩
structure Txt (K : PySem.W.Frag) (mg : Str → Option Value) : Prop where
  m_ValueError : mg "ValueError" = none
  m_isinstance : mg "isinstance" = none
  m_int : mg "int" = none
  m_abs : mg "abs" = none
  m_range : mg "range" = none
  m_list : mg "list" = none
  m_zip : mg "zip" = none
  m_len : mg "len" = none
  m_tuple : mg "tuple" = none
  m_str : mg "str" = none
  m_max : mg "max" = none
  m_bool : mg "bool" = none
  x_WoodError : XcAt K mg "WoodError"
  x_BadOrder : XcAt K mg "BadOrder"
  x_NoTerm : XcAt K mg "NoTerm"
  x_NoPlace : XcAt K mg "NoPlace"
  x_BadText : XcAt K mg "BadText"
  x_TooHeavy : XcAt K mg "TooHeavy"
  x_TooLong : XcAt K mg "TooLong"
  ct_NoPlace_WoodError : CtAt K mg "NoPlace" "WoodError" true
  ct_NoPlace_NoPlace : CtAt K mg "NoPlace" "NoPlace" true
  i_NoPlace : ∀ D, mg "NoPlace" = some (.ref D) → ExcC K D
  kt_NoPlace_BadOrder : ∀ D C, mg "NoPlace" = some (.ref D) → mg "BadOrder" = some (.ref C) → PySem.W.kitOne K (.ref D) (.ref C) = some false
  kt_NoPlace_BadText : ∀ D C, mg "NoPlace" = some (.ref D) → mg "BadText" = some (.ref C) → PySem.W.kitOne K (.ref D) (.ref C) = some false
  kt_NoPlace_NoTerm : ∀ D C, mg "NoPlace" = some (.ref D) → mg "NoTerm" = some (.ref C) → PySem.W.kitOne K (.ref D) (.ref C) = some false
  kt_NoPlace_TooHeavy : ∀ D C, mg "NoPlace" = some (.ref D) → mg "TooHeavy" = some (.ref C) → PySem.W.kitOne K (.ref D) (.ref C) = some false
  kt_NoPlace_TooLong : ∀ D C, mg "NoPlace" = some (.ref D) → mg "TooLong" = some (.ref C) → PySem.W.kitOne K (.ref D) (.ref C) = some false
  kt_NoPlace_NoPlace : ∀ D C, mg "NoPlace" = some (.ref D) → mg "NoPlace" = some (.ref C) → PySem.W.kitOne K (.ref D) (.ref C) = some true
  kt_NoPlace_ValueError : ∀ D, mg "NoPlace" = some (.ref D) → PySem.W.kitOne K (.ref D) (.type "ValueError") = some true
  d_is_blank : DefAt K mg "is_blank" s_is_blank ["term"]
  d_places : DefAt K mg "places" s_places ["term"]
  d_part_at : DefAt K mg "part_at" s_part_at ["term", "place"]
  d_put_at : DefAt K mg "put_at" s_put_at ["term", "place", "new"]
  d__law_cell : DefAt K mg "_law_cell" s__law_cell ["_law_script", "_law_k"]
  d__law_dice : DefAt K mg "_law_dice" s__law_dice ["_law_script", "_law_k"]
  d__law_off : DefAt K mg "_law_off" s__law_off ["_law_d", "_law_most"]
  d__law_names : DefAt K mg "_law_names" s__law_names ["_law_d", "_law_many"]
  d__law_signs : DefAt K mg "_law_signs" s__law_signs ["_law_d"]
  d__law_free : DefAt K mg "_law_free" s__law_free ["_law_d"]
  d__law_term : DefAt K mg "_law_term" s__law_term ["_law_d", "_law_signs_here", "_law_deep", "_law_free_here"]
  d__law_tall : DefAt K mg "_law_tall" s__law_tall ["_law_d", "_law_term_here"]
  d__law_places : DefAt K mg "_law_places" s__law_places ["_law_term_here"]
  d__law_part : DefAt K mg "_law_part" s__law_part ["_law_term_here", "_law_place"]
  d__law_put : DefAt K mg "_law_put" s__law_put ["_law_term_here", "_law_place", "_law_new"]
  d__law_same : DefAt K mg "_law_same" s__law_same ["_law_found", "_law_due"]
  d__law_refused : DefAt K mg "_law_refused" s__law_refused ["_law_term_here", "_law_place"]
  d_law : DefAt K mg "law" s_law ["_law_script"]
--SPLIT-HEAD
section
variable {P : Program} {w : World} {K : PySem.W.Frag} {mg : Str → Option Value} {base : Heap}
-- is_blank
abbrev sp_is_blank : ASp := sp1 fun x G Q _ => ∃ t : Tm, x = t.av ∧ Q (.bl (isBl t)) G
theorem ok_is_blank (T : Txt K mg) : DefOk P w K mg base 1 "is_blank" sp_is_blank := by
  refine T.d_is_blank.ok1 sc_is_blank rfl (fun f cdv A outer s H E W tk pw hr x1 G Q E0 h => ?_)
  obtain ⟨t, rfl, h⟩ := h
  refine ⟨_, (as_one (as_ret (ae_isi T.m_isinstance (aa_cons (av 0) (aa_cons (ae_ty T.m_int bt_int) aa_nil))))), ?_⟩
  walk_at "rd"
  cases t with
  | bl n => exact ⟨by decide +kernel, dq h⟩
  | fn g ts => exact ⟨by decide +kernel, dq h⟩
-- places
abbrev sp_places (d : Nat) : ASp := sp1 fun x G Q _ => ∃ t : Tm, x = t.av ∧ t.depth < d ∧ t.size ≤ 100000 ∧ ∀ p G', New G p (.lst (t.places.map plA)) G' → Q (.ref p) G'
theorem ok_places (T : Txt K mg) (d : Nat) : DefOk P w K mg base (d + 2) "places" (sp_places d) := by
  have c_is_blank := ok_is_blank (P := P) (w := w) (base := base) T
  induction d with
  | zero =>
    refine T.d_places.ok1 sc_places rfl (fun f cdv A outer s H E W tk pw hr x1 G Q E0 h => ?_)
    obtain ⟨t, _, hd, _⟩ := h
    exact absurd hd (Nat.not_lt_zero _)
  | succ d c_places =>
    refine T.d_places.ok1 sc_places rfl (fun f cdv A outer s H E W tk pw hr x1 G Q E0 h => ?_)
    obtain ⟨t, rfl, hd, hs, h⟩ := h
    have tail : ∃ u, ASs (bX P w K mg base N_places "places" s_places f cdv A outer s H E) W ((defBody s_places).drop 2) u ∧ ∀ G1 (pf : Addr) (fd : List (List Nat)) o1 o2, GSub G G1 → G pf = none → G1 pf = some (.lst (fd.map plA)) → fd.length ≤ 100000 → t.places = fd ++ [[]] →
        u { nx := fun _ G' => dropQ Q .non G', rt := dropQ Q, ex := fun c _ G' => dropE E0 c G' } [some t.av, some (.ref pf), o1, o2] G1 := by
      refine ⟨_, (as_cons (as_expr (ae_append (av 1) (aa_cons (ae_tup aa_nil) aa_nil)))
    (as_one (as_ret (av 1)))), fun G1 pf fd o1 o2 sb hn ef hl he => ?_⟩
      walk_at "rd"
      refine ⟨isTy_lst ef, szl, _, ef, ?_, ?_⟩
      · rw [List.length_map]; exact big6' (by omega)
      · refine dqn h (sb.new' hn) hn ?_
        rw [gset_same, he, List.map_append]
        rfl
    obtain ⟨u, hu, tail⟩ := tail
    refine ⟨_, as_cons (as_set (i := 1) sc_places.nd rfl (Or.inl rfl) (ae_lst aa_nil)) (as_cons (as_if (at_not (at_truth (ae_call c_is_blank (hr.mono (by first | decide | omega)) tk (aa_cons (av 0) aa_nil)))) (as_one (as_forR2 T.m_range pw rfl (aa_cons ae_int (aa_cons (ae_len T.m_len (aa_cons (av 0) aa_nil)) aa_nil)) (ag_name (i := 2) sc_places.nd rfl (Or.inl rfl)) (as_one (as_forL pw rfl (ae_call c_places (hr.mono (by first | decide | omega)) tk (aa_cons (ae_ix (av 0) (av 2)) aa_nil)) (ag_name (i := 3) sc_places.nd rfl (Or.inl rfl)) (as_one (as_expr (ae_append (av 1) (aa_cons (ae_add (ae_tup (aa_cons (av 2) aa_nil)) (av 3)) aa_nil)))))))) as_nil) hu), ?_⟩
    walk_at "rd"
    refine ⟨szl, fun pf G1 n1 => ⟨t, rfl, ?_⟩⟩
    cases t with
    | bl n =>
      walk_at "rd"
      exact iteF (tail G1 pf [] _ _ n1.sub n1.free n1.at_ (by decide) rfl)
    | fn g ts =>
      rw [Tm.size] at hs
      rw [Tm.depth] at hd
      walk_at "rd"
      refine iteT ?_
      have hln := Tm.length_le_sizeL ts
      rw [Tm.avL_length]
      refine ⟨⟨by decide, by decide, by omega, by omega⟩, ?_⟩
      have hn : (((ts.length + 1 : Nat) : Int) - 1).toNat = ts.length := by omega
      rw [hn]
      have hpf := n1.free
      refine ⟨fun i ρ G' => ∃ o1 o2, ρ = [some (AV.tup (AV.str g :: Tm.avL ts)), some (.ref pf), o1, o2] ∧ GSub G G' ∧ G' pf = some (.lst ((Tm.placesL 1 (ts.take i)).map plA)), ⟨_, _, rfl, n1.sub, n1.at_⟩, fun _ _ _ _ => trivial, ?_, ?_⟩
      · rintro i x ρ G' hx ⟨o1, o2, rfl, sb, ef⟩
        obtain ⟨hi, rfl⟩ := rangeA_get hx
        have ht : ts[i]? = some ts[i] := List.getElem?_eq_getElem hi
        have hm := List.mem_of_getElem? ht
        have h2 := Tm.depth_le_of_mem hm
        have h3 := Tm.size_le_of_mem hm
        walk_at "rd"
        refine ⟨ts[i].av, ?_, ts[i], rfl, by omega, by omega, fun q G2 nq => ?_⟩
        · exact atI_some (n := i + 1) (by rw [List.getElem?_cons_succ, Tm.avL_map, List.getElem?_map, ht]; rfl) (by omega)
        generalize ts[i] = t at *
        have hpl2 := Tm.placesL_len 1 (ts.take i)
        have hsz : Tm.sizeL (ts.take i) + Tm.sizeL (ts.drop i) = Tm.sizeL ts := by rw [← Tm.sizeL_append, List.take_append_drop]
        have et : ts.take (i + 1) = ts.take i ++ [t] := by rw [List.take_add_one, ht]; rfl
        have hli : (ts.take i).length = i := by rw [List.length_take]; omega
        have hpl := Tm.places_len t
        have hqf : pf ≠ q := nq.ne ef
        refine ⟨_, nq.at_, fun j ρ G3 => ∃ o2, ρ = [some (AV.tup (AV.str g :: Tm.avL ts)), some (.ref pf), some (.int (1 + (i : Int))), o2] ∧ GSub G G3 ∧ G3 q = some (.lst (t.places.map plA)) ∧ G3 pf = some (.lst ((Tm.placesL 1 (ts.take i) ++ (t.places.take j).map ((i + 1) :: ·)).map plA)), ⟨_, rfl, sb.trans nq.sub, nq.at_, ?_⟩, fun _ _ _ ⟨_, _, _, e, _⟩ => e, ?_, ?_⟩
        · rw [List.take_zero, List.map_nil, List.append_nil]; exact nq.keep ef
        · rintro j x ρ G3 hx ⟨o2, rfl, sb3, eq, ef3⟩
          obtain ⟨p, hp, rfl⟩ := map_get hx
          have hj := (List.getElem?_eq_some_iff.mp hp).1
          have hpm := Tm.place_len (List.mem_of_getElem? hp)
          have hds := Tm.depth_le_size t
          unfold plA
          walk_at "rd"
          refine ⟨isTy_lst ef3, szl, ?_, _, ef3, ?_, ?_⟩
          · rw [List.length_map]; show 1 + p.length ≤ _; exact big6 (by omega)
          · rw [List.length_map, List.length_append, List.length_map, List.length_take]; exact big6' (by omega)
          · refine ⟨_, rfl, sb3.new' hpf, by rw [gset_ne hqf.symm]; exact eq, ?_⟩
            rw [gset_same]
            have e2 : t.places.take (j + 1) = t.places.take j ++ [p] := by rw [List.take_add_one, hp]; rfl
            have e : ((1 : Int) + (i : Int)) = ((i + 1 : Nat) : Int) := by omega
            rw [e2, e, List.map_append (l₁ := t.places.take j), ← List.append_assoc, List.map_append (l₁ := Tm.placesL 1 (ts.take i) ++ _)]
            rfl
        · rintro ρ G3 ⟨o2, rfl, sb3, eq, ef3⟩
          refine ⟨_, _, rfl, sb3, ?_⟩
          rw [ef3, et, Tm.placesL_append, hli, Tm.placesL, Tm.placesL, List.append_nil, List.length_map, List.take_length, Nat.add_comm 1 i]
      · rintro ρ G' ⟨o1, o2, rfl, sb, ef⟩
        rw [rangeA_len, List.take_length] at ef
        exact tail G' pf _ _ _ sb hpf ef (by rw [Tm.placesL_len]; omega) (by rw [Tm.places])
-- part_at
abbrev sp_part_at (mg : Str → Option Value) : ASp := sp2 fun x y G Q E => ∃ (t : Tm) (p : List Int), x = t.av ∧ y = plI p ∧ (Tm.partI t p = none → ∀ c, mg "NoPlace" = some c → E c G) ∧ ∀ u, Tm.partI t p = some u → Q u.av G
theorem ok_part_at (T : Txt K mg) : DefOk P w K mg base 2 "part_at" (sp_part_at mg) := by
  have c_is_blank := ok_is_blank (P := P) (w := w) (base := base) T
  refine T.d_part_at.ok2 sc_part_at rfl (fun f cdv A outer s H E W tk pw hr x1 x2 G Q E0 h => ?_)
  obtain ⟨t, p, rfl, rfl, hno, hyes⟩ := h
  refine ⟨_, (as_cons (as_forT pw rfl (av 1) (ag_name (i := 2) sc_part_at.nd rfl (Or.inl rfl)) (as_cons (as_if (at_w (aw_or (at_truth (ae_call c_is_blank (hr.mono (by first | decide | omega)) tk (aa_cons (av 0) aa_nil))) (aw_or1 (at_not (at_chain op_le (lf_i fun _ _ _ => .bl _) op_lt (lf_i fun _ _ _ => .bl _) ae_int (av 2) (ae_len T.m_len (aa_cons (av 0) aa_nil))))))) (as_one (as_raise rfl tk T.x_NoPlace)) as_nil)
    (as_one (as_set (i := 0) sc_part_at.nd rfl (Or.inl rfl) (ae_ix (av 0) (av 2))))))
    (as_one (as_ret (av 0)))), ?_⟩
  unfold plI
  walk_at "rd"
  refine ⟨fun i ρ G' => G' = G ∧ ∃ u o, ρ = [some (Tm.av u), some (.tup (p.map .int)), o] ∧ Tm.partI u (p.drop i) = Tm.partI t p, ⟨rfl, _, _, rfl, rfl⟩, fun _ _ _ _ => trivial, ?_, ?_⟩
  · rintro i x ρ G' hx ⟨rfl, u, o, rfl, hp⟩
    obtain ⟨k, hk, rfl⟩ := map_get hx
    rw [drop_cons hk] at hp
    walk_at "rd"
    refine ⟨u, rfl, ?_⟩
    have nor : Tm.partI u (k :: p.drop (i + 1)) = none → ∀ c, mg "NoPlace" = some c → dropE E0 c G' := fun z c hc => de (hno (by rw [← hp, z]) c hc)
    cases u with
    | bl n =>
      walk_at "rd"
      exact iteT (nor rfl)
    | fn f ts =>
      rw [Tm.partI] at nor hp
      walk_at "rd"
      refine iteF ?_
      by_cases h1 : 1 ≤ k
      · rw [decide_eq_true h1]
        walk_at "rd"
        rw [Tm.avL_length]
        by_cases h2 : k < (ts.length : Int) + 1
        · rw [decide_eq_true (by push_cast; omega)]
          walk_at "rd"
          rw [if_pos ⟨h1, h2⟩] at hp
          have hi : k.toNat - 1 < ts.length := by omega
          refine iteF ⟨ts[k.toNat - 1].av, ?_, ?_⟩
          · refine atI_some (n := (k.toNat - 1) + 1) ?_ (by omega)
            rw [List.getElem?_cons_succ, Tm.avL_map, List.getElem?_map, List.getElem?_eq_getElem hi]; rfl
          rw [List.getElem?_eq_getElem hi] at hp
          exact ⟨_, _, rfl, hp⟩
        · rw [decide_eq_false (by push_cast; omega)]
          walk_at "rd"
          rw [if_neg (fun z => h2 z.2)] at nor
          exact iteT (nor rfl)
      · rw [decide_eq_false h1]
        walk_at "rd"
        rw [if_neg (fun z => h1 z.1)] at nor
        exact iteT (nor rfl)
  · rintro ρ G' ⟨rfl, u, o, rfl, hp⟩
    rw [List.length_map, List.drop_length, Tm.partI_nil] at hp
    walk_at "rd"
    exact dq (hyes u hp.symm)
-- put_at
abbrev sp_put_at (mg : Str → Option Value) (d : Nat) : ASp := sp3 fun x y z G Q E => ∃ (t : Tm) (p : List Int) (v : Tm), x = t.av ∧ y = plI p ∧ z = v.av ∧ p.length < d ∧ t.size ≤ 100000 ∧ (Tm.partI t p = none → ∀ c, mg "NoPlace" = some c → E c G) ∧ ((Tm.partI t p).isSome → Q (Tm.putI t p v).av G)
theorem ok_put_at (T : Txt K mg) (d : Nat) : DefOk P w K mg base (d + 5) "put_at" (sp_put_at mg d) := by
  have c_is_blank := ok_is_blank (P := P) (w := w) (base := base) T
  induction d with
  | zero =>
    refine T.d_put_at.ok3 sc_put_at rfl (fun f cdv A outer s H E W tk pw hr x1 x2 x3 G Q E0 h => ?_)
    obtain ⟨t, _, _, _, _, _, hd, _⟩ := h
    exact absurd hd (Nat.not_lt_zero _)
  | succ d c_put_at =>
    refine T.d_put_at.ok3 sc_put_at rfl (fun f cdv A outer s H E W tk pw hr x1 x2 x3 G Q E0 h => ?_)
    obtain ⟨t, p, v, rfl, rfl, rfl, hd, hs, hno, hyes⟩ := h
    refine ⟨_, (as_cons (as_if (at_eq hr (av 1) (ae_tup aa_nil)) (as_one (as_ret (av 2))) as_nil)
    (as_cons (as_set (i := 3) sc_put_at.nd rfl (Or.inl rfl) (ae_ix (av 1) ae_int))
    (as_cons (as_if (at_w (aw_or (at_truth (ae_call c_is_blank (hr.mono (by first | decide | omega)) tk (aa_cons (av 0) aa_nil))) (aw_or1 (at_not (at_chain op_le (lf_i fun _ _ _ => .bl _) op_lt (lf_i fun _ _ _ => .bl _) ae_int (av 3) (ae_len T.m_len (aa_cons (av 0) aa_nil))))))) (as_one (as_raise rfl tk T.x_NoPlace)) as_nil)
    (as_one (as_ret (ae_add (ae_add (ae_slice (av 0) ap_none (ap_some (av 3))) (ae_tup (aa_cons (ae_call c_put_at (hr.mono (by first | decide | omega)) tk (aa_cons (ae_ix (av 0) (av 3)) (aa_cons (ae_slice (av 1) (ap_some ae_int) ap_none) (aa_cons (av 2) aa_nil)))) aa_nil))) (ae_slice (av 0) (ap_some (ae_add (av 3) ae_int)) ap_none))))))), ?_⟩
    unfold plI
    walk_at "rd"
    refine ⟨szl, ?_⟩
    refine fEq_plI (q := []) fun c hc => ?_
    walk_at "rd"
    cases p with
    | nil =>
      rw [hc.mpr rfl]
      rw [Tm.partI_nil, Tm.putI_nil] at hyes
      walk_at "rd"
      exact dq (hyes rfl)
    | cons k p =>
      have hcf : c = false := by cases c with | false => rfl | true => exact absurd (hc.mp rfl) (by simp)
      subst hcf
      walk_at "rd"
      refine ⟨_, atI_zero, ?_⟩
      walk_at "rd"
      refine ⟨t, rfl, ?_⟩
      have nor : Tm.partI t (k :: p) = none → ∀ c, mg "NoPlace" = some c → dropE E0 c G := fun z c hc => de (hno z c hc)
      cases t with
      | bl n =>
        walk_at "rd"
        exact iteT (nor rfl)
      | fn f ts =>
        rw [Tm.size] at hs
        rw [Tm.partI] at nor hyes
        walk_at "rd"
        refine iteF ?_
        by_cases h1 : 1 ≤ k
        · rw [decide_eq_true h1]
          walk_at "rd"
          rw [Tm.avL_length]
          by_cases h2 : k < (ts.length : Int) + 1
          · rw [decide_eq_true (by push_cast; omega)]
            walk_at "rd"
            rw [if_pos ⟨h1, h2⟩] at nor hyes
            obtain ⟨j, rfl⟩ : ∃ j : Nat, k = ((j + 1 : Nat) : Int) := ⟨k.toNat - 1, by omega⟩
            rw [show ((j + 1 : Nat) : Int).toNat - 1 = j by omega] at nor hyes
            have hi : j < ts.length := by omega
            have ht : ts[j]? = some ts[j] := List.getElem?_eq_getElem hi
            generalize ts[j] = t at ht
            rw [ht] at nor hyes
            simp only at nor hyes
            rw [Tm.putI, show ((j + 1 : Nat) : Int).toNat - 1 = j by omega, ht] at hyes
            simp only at hyes
            have hm := List.mem_of_getElem? ht
            have h3 := Tm.size_le_of_mem hm
            have hln := Tm.length_le_sizeL ts
            rw [List.length_cons] at hd
            refine iteF ⟨t.av, ?_, ?_⟩
            · exact atI_some (n := j + 1) (by rw [List.getElem?_cons_succ, Tm.avL_map, List.getElem?_map, ht]; rfl) rfl
            rw [cutA_1]
            refine ⟨t, p, v, rfl, rfl, rfl, by omega, by omega, fun z c hc => nor z c hc, fun hz => ?_⟩
            have hyes := hyes hz
            walk_at "rd"
            rw [cutA_to (AV.str f :: Tm.avL ts) (j + 1)]
            refine ⟨szl, ?_, ?_⟩
            · rw [List.length_take]; exact big6 (by show _ + 1 ≤ _; have := Nat.min_le_right (j + 1) (AV.str f :: Tm.avL ts).length; rw [List.length_cons, Tm.avL_length] at this; rw [List.length_cons, Tm.avL_length]; omega)
            rw [cutA_fromK (k := ((j + 1 : Nat) : Int) + 1) (j + 2) (by omega)]
            refine ⟨?_, ?_⟩
            · rw [List.length_append, List.length_take, List.length_drop, List.length_cons, Tm.avL_length]; exact big6 (by show _ + 1 + _ ≤ _; omega)
            · have e : AV.tup ((AV.str f :: Tm.avL ts).take (j + 1) ++ [(Tm.putI t p v).av] ++ (AV.str f :: Tm.avL ts).drop (j + 2)) = (Tm.fn f (ts.set j (Tm.putI t p v))).av := by
                rw [av_fn, List.take_succ_cons, List.drop_succ_cons, Tm.avL_map, Tm.avL_map, List.map_set, List.set_eq_take_append_cons_drop, if_pos (by rw [List.length_map]; exact hi)]
                simp
              rw [e]
              exact dq hyes
          · rw [decide_eq_false (by push_cast; omega)]
            walk_at "rd"
            rw [if_neg (fun z => h2 z.2)] at nor
            exact iteT (nor rfl)
        · rw [decide_eq_false h1]
          walk_at "rd"
          rw [if_neg (fun z => h1 z.1)] at nor
          exact iteT (nor rfl)
-- _law_cell
abbrev sp__law_cell : ASp := sp2 fun x y G Q _ => ∃ ns k, x = .ro ns ∧ y = .int k ∧ 0 ≤ k ∧ ∀ n, Q (.int n) G
theorem ok__law_cell (T : Txt K mg) : DefOk P w K mg base 1 "_law_cell" sp__law_cell := by
  refine T.d__law_cell.ok2 sc__law_cell rfl (fun f cdv A outer s H E W tk pw hr x1 x2 G Q E0 h => ?_)
  obtain ⟨ns, k, rfl, rfl, hk, h⟩ := h
  refine ⟨_, (as_cons (as_if (at_lt (av 1) (ae_len T.m_len (aa_cons (av 0) aa_nil))) (as_one (as_ret (ae_ix (av 0) (av 1)))) as_nil)
    (as_one (as_ret ae_int))), ?_⟩
  walk_at "rd"
  refine ite2 (fun hl => ?_) (fun _ => dq (h 0))
  have hl : k < ns.length := of_decide_eq_true hl
  exact ⟨ns[k.toNat]'(by omega), atI_some (n := k.toNat) (by simp) (by omega), dq (h _)⟩
-- _law_dice
abbrev sp__law_dice : ASp := sp2 fun x y G Q _ => ∃ ns k, x = .ro ns ∧ y = .int k ∧ 0 ≤ k ∧ ∀ p D G', IsDice ns D → New G p (.lst D) G' → Q (.ref p) G'
theorem ok__law_dice (T : Txt K mg) : DefOk P w K mg base 2 "_law_dice" sp__law_dice := by
  have c__law_cell := ok__law_cell (P := P) (w := w) (base := base) T
  refine T.d__law_dice.ok2 sc__law_dice rfl (fun f cdv A outer s H E W tk pw hr x1 x2 G Q E0 h => ?_)
  obtain ⟨ns, k, rfl, rfl, hk, h⟩ := h
  refine ⟨_, (as_cons (as_set (i := 2) sc__law_dice.nd rfl (Or.inl rfl) (ae_abs T.m_abs (aa_cons (ae_call c__law_cell (hr.mono (by first | decide | omega)) tk (aa_cons (av 0) (aa_cons (av 1) aa_nil))) aa_nil)))
    (as_one (as_ret (ae_lst (aa_cons (ae_mod (av 2) ae_int) (aa_cons (av 0) (aa_cons (ae_add (av 1) ae_int) (aa_cons (ae_mul (ae_int1 T.m_int (aa_cons (ae_ge (av 2) (ae_pow ae_int ae_int)) aa_nil)) (av 2)) aa_nil)))))))), ?_⟩
  walk_at "rd"
  refine ⟨ns, k, rfl, rfl, hk, fun n => ?_⟩
  walk_at "rd"
  have habs : 0 ≤ (if n < 0 then -n else n) := by split <;> omega
  generalize (if n < 0 then -n else n) = z at *
  have h1 := Int.emod_nonneg z (show (2147483647 : Int) ≠ 0 by decide)
  have h2 := Int.emod_lt_of_pos z (show (0 : Int) < 2147483647 by decide)
  refine ⟨by decide, ⟨by decide, by decide, by decide⟩, .inl (by split <;> decide), by decide +kernel, fun p G' hp => dq (h p _ G' ⟨_, _, _, rfl, h1, h2, by omega, ?_⟩ hp)⟩
  split
  · rw [Int.one_mul]; exact habs
  · rw [Int.zero_mul]; exact Int.le_refl _
-- _law_off
abbrev sp__law_off : ASp := sp2 fun x y G Q _ => ∃ ns a m, x = .ref a ∧ y = .int m ∧ 0 < m ∧ m < 1073741824 ∧ DiceAt ns a G ∧ ∀ r G', 0 ≤ r → r < m → DS ns a G G' → Q (.int r) G'
theorem ok__law_off (T : Txt K mg) : DefOk P w K mg base 2 "_law_off" sp__law_off := by
  have c__law_cell := ok__law_cell (P := P) (w := w) (base := base) T
  refine T.d__law_off.ok2 sc__law_off rfl (fun f cdv A outer s H E W tk pw hr x1 x2 G Q E0 h => ?_)
  obtain ⟨ns, a, m, rfl, rfl, hm0, hm1, ⟨D, hD, y, k, g, rfl, y0, y1, k0, g0⟩, h⟩ := h
  refine ⟨_, (as_cons (as_if (at_gt (ae_ix (av 0) ae_int) ae_int) (as_cons (as_set (i := 2) sc__law_off.nd rfl (Or.inl rfl) (ae_mod (ae_ix (av 0) ae_int) (av 1)))
    (as_cons (as_asg (ae_div (ae_ix (av 0) ae_int) (av 1)) (ag_setL (av 0) ae_int))
    (as_one (as_ret (av 2))))) as_nil)
    (as_cons (as_set (i := 3) sc__law_off.nd rfl (Or.inl rfl) (ae_abs T.m_abs (aa_cons (ae_call c__law_cell (hr.mono (by first | decide | omega)) tk (aa_cons (ae_ix (av 0) ae_int) (aa_cons (ae_mod (ae_ix (av 0) ae_int) (ae_max2 T.m_max rfl (aa_cons ae_int (aa_cons (ae_len T.m_len (aa_cons (ae_ix (av 0) ae_int) aa_nil)) aa_nil)))) aa_nil))) aa_nil)))
    (as_cons (as_asg (ae_add (ae_ix (av 0) ae_int) ae_int) (ag_setL (av 0) ae_int))
    (as_cons (as_asg (ae_mod (ae_add (ae_add (ae_mul (ae_ix (av 0) ae_int) ae_int) ae_int) (av 3)) ae_int) (ag_setL (av 0) ae_int))
    (as_one (as_ret (ae_mod (ae_div (ae_ix (av 0) ae_int) ae_int) (av 1)))))))), ?_⟩
  walk_at "rd"
  refine ⟨_, hD, _, rfl, ?_⟩
  walk_at "rd"
  refine ite2 (fun hg => ?_) (fun _ => ?_)
  · have hg : 0 < g := of_decide_eq_true hg
    refine ⟨_, hD, _, rfl, ?_⟩
    walk_at "rd"
    refine ⟨hm0, _, hD, _, rfl, ?_⟩
    walk_at "rd"
    refine ⟨⟨hm0, hm1⟩, _, 3, hD, rfl, dq (h _ _ (Int.emod_nonneg _ (by omega)) (Int.emod_lt_of_pos _ hm0) (.set ⟨y, k, g / m, rfl, y0, y1, k0, Int.ediv_nonneg g0 (by omega)⟩))⟩
  · refine ⟨_, hD, _, rfl, _, hD, _, rfl, _, hD, _, rfl, ?_⟩
    walk_at "rd"
    have hl : 0 < if (ns.length : Int) > 1 then (ns.length : Int) else 1 := by split <;> omega
    refine ⟨hl, ns, _, rfl, rfl, Int.emod_nonneg _ (by omega), fun n => ?_⟩
    walk_at "rd"
    have habs : 0 ≤ (if n < 0 then -n else n) := by split <;> omega
    generalize (if n < 0 then -n else n) = z at *
    refine ⟨_, hD, _, rfl, ?_⟩
    walk_at "rd"
    refine ⟨_, 2, hD, rfl, _, gset_same, _, rfl, ?_⟩
    walk_at "rd"
    refine ⟨.inr ⟨by decide, by decide⟩, by decide, _, 0, gset_same, rfl, _, gset_same, _, rfl, ?_⟩
    walk_at "rd"
    have h1 := Int.emod_nonneg (y * 48271 + 11 + z) (show (2147483647 : Int) ≠ 0 by decide)
    have h2 := Int.emod_lt_of_pos (y * 48271 + 11 + z) (show (0 : Int) < 2147483647 by decide)
    rw [gset_gset]
    exact ⟨⟨by decide, by decide⟩, hm0, dq (h _ _ (Int.emod_nonneg _ (by omega)) (Int.emod_lt_of_pos _ hm0) (.set ⟨_, _, g, rfl, h1, h2, by omega, g0⟩))⟩
-- _law_names
abbrev sp__law_names : ASp := sp2 fun x y G Q _ => ∃ ns a m, x = .ref a ∧ y = .int (m : Nat) ∧ m ≤ 26 ∧ DiceAt ns a G ∧ ∀ p ws G', ws.length = m → NamesOk ws → DS ns a G G' → G p = none → G' p = some (.lst (ws.map AV.str)) → Q (.ref p) G'
theorem ok__law_names (T : Txt K mg) : DefOk P w K mg base 3 "_law_names" sp__law_names := by
  have c__law_off := ok__law_off (P := P) (w := w) (base := base) T
  refine T.d__law_names.ok2 sc__law_names rfl (fun f cdv A outer s H E W tk pw hr x1 x2 G Q E0 h => ?_)
  obtain ⟨ns, a, m, rfl, rfl, hm, hd, h⟩ := h
  refine ⟨_, (as_cons (as_set (i := 2) sc__law_names.nd rfl (Or.inr rfl) ae_str)
    (as_cons (as_lcR1 (own := [("_law_k", 3)]) (i := 4) T.m_range rfl sc__law_names.nd rfl rfl (sw_true rfl rfl rfl (by decide +kernel)) (aa_cons (ae_add ae_int (ae_call c__law_off (hr.mono (by first | decide | omega)) tk (aa_cons (av 0) (aa_cons ae_int aa_nil)))) aa_nil) (blkOk_by (N := N__law_names) (sc := defScope s__law_names) (by decide +kernel)) (gb_name 3) (fun _ _ _ _ _ => (pg_name (i := 3) sc__law_names.nd rfl (by first | exact Or.inl rfl | exact Or.inr rfl))) (fun _ _ _ _ _ => ats_nil) (fun _ _ _ _ _ => (ae_ix (av 2) (ae_call c__law_off (hr.mono (by first | decide | omega)) tk_blk (aa_cons (av 0) (aa_cons ae_int aa_nil))))))
    (as_cons (as_set (i := 5) sc__law_names.nd rfl (Or.inl rfl) (ae_call c__law_off (hr.mono (by first | decide | omega)) tk (aa_cons (av 0) (aa_cons (ae_len T.m_len (aa_cons (av 4) aa_nil)) aa_nil))))
    (as_cons (as_set (i := 6) sc__law_names.nd rfl (Or.inl rfl) (ae_call c__law_off (hr.mono (by first | decide | omega)) tk (aa_cons (av 0) (aa_cons ae_int aa_nil))))
    (as_cons (as_set (i := 7) sc__law_names.nd rfl (Or.inl rfl) (ae_ix (ae_lst (aa_cons (ae_lst (aa_cons ae_str (aa_cons ae_str (aa_cons ae_str aa_nil)))) (aa_cons (ae_lst (aa_cons ae_str (aa_cons ae_str (aa_cons ae_str aa_nil)))) aa_nil))) (ae_call c__law_off (hr.mono (by first | decide | omega)) tk (aa_cons (av 0) (aa_cons ae_int aa_nil)))))
    (as_cons (as_set (i := 8) sc__law_names.nd rfl (Or.inl rfl) (ae_lst aa_nil))
    (as_cons (as_forR1 T.m_range pw rfl (aa_cons (av 1) aa_nil) (ag_name (i := 3) sc__law_names.nd rfl (Or.inl rfl)) (as_cons (as_asg (ae_ix (av 2) (ae_mod (ae_add (av 6) (ae_mul ae_int (av 3))) ae_int)) (ag_setL (av 4) (av 5)))
    (as_one (as_expr (ae_append (av 8) (aa_cons (ae_add (ae_join ae_str (aa_cons (av 4) aa_nil)) (ae_ix (av 7) (ae_mod (av 3) ae_int))) aa_nil))))))
    (as_one (as_ret (av 8)))))))))), ?_⟩
  walk_at "rd"
  refine ⟨ns, a, 6, rfl, rfl, by decide, by decide, hd, fun r1 G1 r10 r11 d1 => ?_⟩
  walk_at "rd"
  refine ⟨by omega, by omega, ?_⟩
  refine lcI_dice (ns := ns) (a := a) (fun _ y => ∃ c, isLow c ∧ y = .str ⟨#[c]⟩) d1.at_ (fun _ _ => trivial) (fun _ _ => bd_name) (by rw [rangeA_len]; exact szl (by omega)) ?_ ?_
  · intro i x G' hx d2 ρ2 hb Q1 h1
    subst hb
    walk_at "rd"
    refine ⟨ns, a, 26, rfl, rfl, by decide, by decide, d2.at_, fun r G2 h0 h26 d3 => ?_⟩
    refine ⟨abc_len, _, abc_at h0 h26, h1 _ _ ⟨_, ?_, rfl⟩ d3⟩
    unfold isLow; omega
  · intro acc G2 hl hR d2 p G3 hp
    obtain ⟨bs, rfl, hbs⟩ := acc_map (C := isLow) (f := fun c => AV.str ⟨#[c]⟩) hR
    rw [List.length_map, rangeA_len] at hl
    walk_at "rd"
    have pa : p ≠ a := d2.neN hp
    have d3 := (d1.trans d2).newN hp
    have gp : G p = none := (d1.trans d2).none hp.free
    refine .inl ⟨_, hp.at_, ?_⟩
    rw [List.length_map]
    refine ⟨ns, a, _, rfl, rfl, by omega, by omega, d3.at_, fun at_ G3 a0 a1 d4 => ?_⟩
    have b4 := d4.keep p _ pa hp.at_
    replace d4 := d3.trans d4
    refine ⟨ns, a, 26, rfl, rfl, by decide, by decide, d4.at_, fun tn G4 t0 t1 d5 => ?_⟩
    have b5 := d5.keep p _ pa b4
    replace d5 := d4.trans d5
    walk_at "rd"
    refine ⟨szl, fun p1 H1 n1 => ⟨szl, fun p2 H2 n2 => ⟨szl, fun p3 H3 n3 => ?_⟩⟩⟩
    have v1 := n1.ne b5
    have v2 := n2.ne (n1.keep b5)
    replace b5 := n3.keep (n2.keep (n1.keep b5))
    have q1 := n3.keep (n2.keep n1.at_)
    have q2 := n3.keep n2.at_
    have q3 := n3.at_
    have u1 := d5.neN n1
    have u2 := (d5.newN n1).neN n2
    have u3 := ((d5.newN n1).newN n2).neN n3
    replace d5 := ((d5.newN n1).newN n2).newN n3
    refine ⟨ns, a, 2, rfl, rfl, by decide, by decide, d5.at_, fun tl G5 l0 l1 d6 => ?_⟩
    replace b5 := d6.keep _ _ pa b5
    replace q1 := d6.keep _ _ u1 q1
    replace q2 := d6.keep _ _ u2 q2
    replace q3 := d6.keep _ _ u3 q3
    replace d6 := d5.trans d6
    walk_at "rd"
    obtain ⟨b, pt, v, hv, ht, pbt⟩ : ∃ (b : Bool) (pt : Addr), atI [AV.ref p1, AV.ref p2] tl = some (.ref pt) ∧ G5 pt = some (.lst ((List.range 3).map fun k => AV.str (sOf (tailOf b k)))) ∧ pt ≠ a ∧ p ≠ pt := by
      have : tl = 0 ∨ tl = 1 := by omega
      rcases this with rfl | rfl
      · refine ⟨false, p1, rfl, ?_, u1, v1⟩
        rw [q1, str_0]; rfl
      · refine ⟨true, p2, rfl, ?_, u2, v2⟩
        rw [q2, str_0, str_z, str_zz]; rfl
    refine ⟨_, q3, _, v, szl, fun pf G6 n6 => ?_⟩
    walk_at "rd"
    refine ⟨by omega, by omega, ?_⟩
    have pp : p ≠ pf := n6.ne b5
    have ppt : pt ≠ pf := n6.ne hv
    have gpf : G pf = none := d6.none n6.free
    have paf : pf ≠ a := d6.neN n6
    refine ⟨fun i ρ G' => (∃ kk, ρ = [some (.ref a), some (.int m), some (.str "abcdefghijklmnopqrstuvwxyz"), kk, some (.ref p), some (.int at_), some (.int tn), some (.ref pt), some (.ref pf)]) ∧
      (∃ bs' : List Nat, G' p = some (.lst (bs'.map fun c => AV.str ⟨#[c]⟩)) ∧ bs'.length = bs.length ∧ ∀ c, bs'.set at_.toNat c = bs.set at_.toNat c) ∧
      G' pt = some (.lst ((List.range 3).map fun k => AV.str (sOf (tailOf b k)))) ∧ G' pf = some (.lst ((List.range i).map fun k => AV.str (sOf (nmOf bs at_.toNat tn b k)))) ∧ DS ns a G G', ?_, fun _ _ _ _ => trivial, ?_, ?_⟩
    · exact ⟨⟨_, rfl⟩, ⟨bs, n6.keep b5, rfl, fun _ => rfl⟩, n6.keep hv, n6.at_, d6.newN n6⟩
    · rintro i x ρ G' hx ⟨⟨kk, rfl⟩, ⟨bs', e1, e2, e3⟩, e4, e5, e6⟩
      obtain ⟨hi, rfl⟩ := rangeA_get hx
      have hi' : i < m := by omega
      walk_at "rd"
      refine ⟨.inl ⟨by decide, by decide⟩, by decide, abc_len, _, abc_at (Int.emod_nonneg _ (by decide)) (Int.emod_lt_of_pos _ (by decide)), _, at_.toNat, e1, ixN_nat (by omega) (by rw [List.length_map]; omega), ?_⟩
      walk_at "rd"
      have hset : (bs'.map fun c => AV.str ⟨#[c]⟩).set at_.toNat (AV.str ⟨#[97 + ((tn + 7 * (0 + (i : Int))) % 26).toNat]⟩) = (bs.set at_.toNat (letOf tn i)).map fun c => AV.str ⟨#[c]⟩ := by
        rw [← e3, List.map_set]
        unfold letOf
        rw [Int.zero_add]
      rw [hset]
      have hB : (bs.set at_.toNat (letOf tn i)).length = bs.length := List.length_set
      have f1 : gset G' p (.lst ((bs.set at_.toNat (letOf tn i)).map fun c => AV.str ⟨#[c]⟩)) pf = _ := (gset_ne pp.symm).trans e5
      have f2 : gset G' p (.lst ((bs.set at_.toNat (letOf tn i)).map fun c => AV.str ⟨#[c]⟩)) pt = _ := (gset_ne pbt.symm).trans e4
      have f3 : gset G' p (.lst ((bs.set at_.toNat (letOf tn i)).map fun c => AV.str ⟨#[c]⟩)) p = _ := gset_same
      have f4 : DS ns a G (gset G' p (.lst ((bs.set at_.toNat (letOf tn i)).map fun c => AV.str ⟨#[c]⟩))) := e6.over pa gp
      generalize gset G' p (.lst ((bs.set at_.toNat (letOf tn i)).map fun c => AV.str ⟨#[c]⟩)) = G7 at *
      have hsum : ∀ l : List Nat, ((l.map fun c => (⟨#[c]⟩ : Str)).map fun x => x.length).sum = l.length := by
        intro l
        induction l with
        | nil => rfl
        | cons c r ih => rw [List.map_cons, List.map_cons, List.sum_cons, ih, List.length_cons]; show 1 + r.length = _; omega
      refine ⟨isTy_lst f1, (bs.set at_.toNat (letOf tn i)).map fun c => (⟨#[c]⟩ : Str), by rw [f3, List.map_map]; rfl, ?_, by decide, _, f2, .str (sOf (tailOf b i)), ?_, ?_⟩
      · rw [hsum, List.length_map, hB, show ("" : Str).length = 0 from by decide +kernel]; omega
      · refine atI_some (n := i % 3) ?_ (by omega)
        rw [List.getElem?_map, List.getElem?_range (Nat.mod_lt _ (by decide))]
        show some (AV.str (sOf (tailOf b (i % 3)))) = _
        unfold tailOf
        rw [Nat.mod_mod]
      · have ht3 : (tailOf b i).length ≤ 2 := by
          unfold tailOf
          have := Nat.mod_lt i (show 3 > 0 by decide)
          split
          · rw [List.length_replicate]; omega
          · simp
        walk_at "rd"
        rw [join_signs, sOf_len, sOf_len]
        refine ⟨szl (by omega), _, f1, szn (by rw [List.length_map, List.length_range]; omega), ⟨_, rfl⟩, ⟨_, (gset_ne pp).trans f3, hB, fun c => by rw [List.set_set]⟩, (gset_ne ppt).trans f2, ?_, f4.over paf gpf⟩
        rw [gset_same, List.range_succ, List.map_append, sOf_app]
        rfl
    · rintro ρ G' ⟨⟨kk, rfl⟩, _, e4, e5, e6⟩
      rw [rangeA_len] at e5
      walk_at "rd"
      refine dq (h pf ((List.range m).map fun k => sOf (nmOf bs at_.toNat tn b k)) G' (by simp) (names_ok (by omega) (by omega) hbs (by omega) hm) e6 gpf ?_)
      rw [e5, List.map_map]
      rfl
-- _law_signs
abbrev sp__law_signs : ASp := sp1 fun x G Q _ => ∃ ns a, x = .ref a ∧ DiceAt ns a G ∧ ∀ p S G', SgOk 4 S → 4 ≤ S.length → DS ns a G G' → G p = none → G' p = some (.lst (S.map Sg.av)) → Q (.ref p) G'
theorem ok__law_signs (T : Txt K mg) : DefOk P w K mg base 4 "_law_signs" sp__law_signs := by
  have c__law_off := ok__law_off (P := P) (w := w) (base := base) T
  have c__law_names := ok__law_names (P := P) (w := w) (base := base) T
  refine T.d__law_signs.ok1 sc__law_signs rfl (fun f cdv A outer s H E W tk pw hr x1 G Q E0 h => ?_)
  obtain ⟨ns, a, rfl, hd, h⟩ := h
  refine ⟨_, (as_cons (as_set (i := 1) sc__law_signs.nd rfl (Or.inr rfl) (ae_add (ae_lst (aa_cons ae_int (aa_cons ae_int (aa_cons ae_int (aa_cons ae_int aa_nil))))) (ae_ix (ae_lst (aa_cons (ae_lst aa_nil) (aa_cons (ae_lst (aa_cons ae_int aa_nil)) (aa_cons (ae_lst (aa_cons ae_int aa_nil)) (aa_cons (ae_lst (aa_cons ae_int (aa_cons ae_int aa_nil))) (aa_cons (ae_lst (aa_cons ae_int aa_nil)) (aa_cons (ae_lst (aa_cons ae_int (aa_cons ae_int aa_nil))) aa_nil))))))) (ae_call c__law_off (hr.mono (by first | decide | omega)) tk (aa_cons (av 0) (aa_cons ae_int aa_nil))))))
    (as_cons (as_set (i := 2) sc__law_signs.nd rfl (Or.inl rfl) (ae_call c__law_off (hr.mono (by first | decide | omega)) tk (aa_cons (av 0) (aa_cons (ae_len T.m_len (aa_cons (av 1) aa_nil)) aa_nil))))
    (as_cons (as_set (i := 1) sc__law_signs.nd rfl (Or.inr rfl) (ae_add (ae_slice (av 1) (ap_some (av 2)) ap_none) (ae_slice (av 1) ap_none (ap_some (av 2)))))
    (as_cons (as_set (i := 3) sc__law_signs.nd rfl (Or.inr rfl) (ae_call c__law_names (hr.mono (by first | decide | omega)) tk (aa_cons (av 0) (aa_cons (ae_len T.m_len (aa_cons (av 1) aa_nil)) aa_nil))))
    (as_cons (as_set (i := 4) sc__law_signs.nd rfl (Or.inr rfl) (ae_ix (ae_lst (aa_cons ae_int (aa_cons ae_int (aa_cons ae_int aa_nil)))) (ae_call c__law_off (hr.mono (by first | decide | omega)) tk (aa_cons (av 0) (aa_cons ae_int aa_nil)))))
    (as_one (as_ret (ae_lcR1 (own := [("_law_k", 5)]) T.m_range rfl sc__law_signs.nd (aa_cons (ae_len T.m_len (aa_cons (av 1) aa_nil)) aa_nil) (blkOk_by (N := N__law_signs) (sc := defScope s__law_signs) (by decide +kernel)) (gb_name 5) (fun _ _ _ _ _ => (pg_name (i := 5) sc__law_signs.nd rfl (by first | exact Or.inl rfl | exact Or.inr rfl))) (fun _ _ _ _ _ => ats_nil) (fun _ _ _ _ _ => (ae_tup (aa_cons (ae_ix (av 3) (av 5)) (aa_cons (ae_ix (av 1) (av 5)) (aa_cons (ae_add ae_int (ae_call c__law_off (hr.mono (by first | decide | omega)) tk_blk (aa_cons (av 0) (aa_cons (av 4) aa_nil)))) aa_nil))))))))))))), ?_⟩
  walk_at "rd"
  refine ⟨szl, fun p0 H0 n0 => ⟨szl, fun p1 H1 n1 => ⟨szl, fun p2 H2 n2 => ⟨szl, fun p3 H3 n3 => ⟨szl, fun p4 H4 n4 => ⟨szl, fun p5 H5 n5 => ⟨szl, fun p6 H6 n6 => ⟨szl, fun p7 H7 n7 => ?_⟩⟩⟩⟩⟩⟩⟩⟩
  have d := (DS.refl hd).newN n0
  have a0 := (DS.refl hd).neN n0
  have a1 := d.neN n1; replace d := d.newN n1
  have a2 := d.neN n2; replace d := d.newN n2
  have a3 := d.neN n3; replace d := d.newN n3
  have a4 := d.neN n4; replace d := d.newN n4
  have a5 := d.neN n5; replace d := d.newN n5
  have a6 := d.neN n6; replace d := d.newN n6
  have a7 := d.neN n7; replace d := d.newN n7
  refine ⟨ns, a, 6, rfl, rfl, by decide, by decide, d.at_, fun r G1 r0 r6 d1 => ?_⟩
  obtain ⟨ex, pe, hex, he, hpe, hl⟩ : ∃ (ex : List Nat) (pe : Addr), ex ∈ menuA ∧ atI [AV.ref p1, AV.ref p2, AV.ref p3, AV.ref p4, AV.ref p5, AV.ref p6] r = some (.ref pe) ∧ pe ≠ a ∧ H7 pe = some (.lst (ex.map fun (n : Nat) => AV.int n)) := by
    have : r = 0 ∨ r = 1 ∨ r = 2 ∨ r = 3 ∨ r = 4 ∨ r = 5 := by omega
    rcases this with rfl | rfl | rfl | rfl | rfl | rfl
    · exact ⟨[], p1, by decide, rfl, a1, n7.keep (n6.keep (n5.keep (n4.keep (n3.keep (n2.keep n1.at_)))))⟩
    · exact ⟨[0], p2, by decide, rfl, a2, n7.keep (n6.keep (n5.keep (n4.keep (n3.keep n2.at_))))⟩
    · exact ⟨[1], p3, by decide, rfl, a3, n7.keep (n6.keep (n5.keep (n4.keep n3.at_)))⟩
    · exact ⟨[0, 2], p4, by decide, rfl, a4, n7.keep (n6.keep (n5.keep n4.at_))⟩
    · exact ⟨[3], p5, by decide, rfl, a5, n7.keep (n6.keep n5.at_)⟩
    · exact ⟨[4, 1], p6, by decide, rfl, a6, n7.keep n6.at_⟩
  have q0 := d1.keep _ _ a0 (n7.keep (n6.keep (n5.keep (n4.keep (n3.keep (n2.keep (n1.keep n0.at_)))))))
  have q7 := d1.keep _ _ a7 n7.at_
  have qe := d1.keep _ _ hpe hl
  replace d := d.trans d1
  walk_at "rd"
  refine ⟨_, q7, _, he, ?_⟩
  walk_at "rd"
  have hexl : ex.length ≤ 2 := by
    have : ∀ e ∈ menuA, e.length ≤ 2 := by decide
    exact this ex hex
  refine ⟨_, _, q0, qe, szl (by simp; omega), fun p8 G2 n8 => ?_⟩
  have d2 := d.newN n8
  have a8 := d.neN n8
  have e8 : ([AV.int 0, AV.int 0, AV.int 1, AV.int 2] ++ ex.map fun (n : Nat) => AV.int n) = ([0, 0, 1, 2] ++ ex).map fun (n : Nat) => AV.int n := rfl
  have h8 := n8.at_
  rw [e8] at h8
  have hml : ([0, 0, 1, 2] ++ ex).length ≤ 6 := by simp; omega
  have hml4 : 4 ≤ ([0, 0, 1, 2] ++ ex).length := by simp
  have hall : ([0, 0, 1, 2] ++ ex).all (fun n => decide (n ≤ 4)) = true ∧ 2 ≤ (([0, 0, 1, 2] ++ ex).filter fun n => decide (n = 0)).length ∧ 1 ≤ (([0, 0, 1, 2] ++ ex).filter fun n => decide (n = 1)).length ∧ 1 ≤ (([0, 0, 1, 2] ++ ex).filter fun n => decide (n = 2)).length := by
    have : ∀ e ∈ menuA, ([0, 0, 1, 2] ++ e).all (fun n => decide (n ≤ 4)) = true ∧ 2 ≤ (([0, 0, 1, 2] ++ e).filter fun n => decide (n = 0)).length ∧ 1 ≤ (([0, 0, 1, 2] ++ e).filter fun n => decide (n = 1)).length ∧ 1 ≤ (([0, 0, 1, 2] ++ e).filter fun n => decide (n = 2)).length := by decide
    exact this ex hex
  generalize [0, 0, 1, 2] ++ ex = ms at *
  walk_at "rd"
  refine .inl ⟨_, h8, ?_⟩
  rw [List.length_map]
  refine ⟨ns, a, _, rfl, rfl, by omega, by omega, d2.at_, fun t G3 t0 t1 d3 => ?_⟩
  have q8 := d3.keep _ _ a8 h8
  replace d3 := d2.trans d3
  walk_at "rd"
  obtain ⟨tn, rfl⟩ : ∃ tn : Nat, t = (tn : Int) := ⟨t.toNat, by omega⟩
  refine ⟨_, q8, fun p9 G4 n9 => ?_⟩
  walk_at "rd"
  refine ⟨_, n9.keep q8, fun p10 G5 n10 => ?_⟩
  rw [cutA_from] at n9
  rw [cutA_to] at n10
  refine ⟨_, _, n10.keep n9.at_, n10.at_, szl (by simp; omega), fun p11 G6 n11 => ?_⟩
  have d6 := ((d3.newN n9).newN n10).newN n11
  have a11 := ((d3.newN n9).newN n10).neN n11
  have h11 := n11.at_
  rw [← List.map_drop, ← List.map_take, ← List.map_append] at h11
  have hperm := rot_perm ms tn
  have hrl : (ms.drop tn ++ ms.take tn).length = ms.length := hperm.length_eq
  generalize ms.drop tn ++ ms.take tn = rs at *
  walk_at "rd"
  refine .inl ⟨_, h11, ?_⟩
  rw [List.length_map]
  refine ⟨ns, a, rs.length, rfl, rfl, by omega, d6.at_, fun pw' ws G7 hwl hws d7 gp h7 => ?_⟩
  have q11 := d7.keep _ _ a11 h11
  have aw : pw' ≠ a := by
    obtain ⟨D, e, _⟩ := d6.at_
    exact (gne e gp).symm
  replace d7 := d6.trans d7
  refine ⟨szl, fun p12 G8 n12 => ?_⟩
  have d8 := d7.newN n12
  have a12 := d7.neN n12
  refine ⟨ns, a, 3, rfl, rfl, by decide, by decide, d8.at_, fun r3 G9 r30 r33 d9 => ?_⟩
  have q12 := d9.keep _ _ a12 n12.at_
  have q11' := d9.keep _ _ a11 (n12.keep q11)
  have qw := d9.keep _ _ aw (n12.keep h7)
  replace d9 := d8.trans d9
  obtain ⟨mx, hmx, hm1, hm9⟩ : ∃ mx : Int, atI [AV.int 1, AV.int 3, AV.int 9] r3 = some (.int mx) ∧ 1 ≤ mx ∧ mx ≤ 9 := by
    have : r3 = 0 ∨ r3 = 1 ∨ r3 = 2 := by omega
    rcases this with rfl | rfl | rfl
    · exact ⟨1, rfl, by decide, by decide⟩
    · exact ⟨3, rfl, by decide, by decide⟩
    · exact ⟨9, rfl, by decide, by decide⟩
  walk_at "rd"
  refine ⟨_, q12, _, hmx, ?_⟩
  walk_at "rd"
  refine .inl ⟨_, q11', ?_⟩
  walk_at "rd"
  rw [List.length_map]
  refine ⟨by omega, by omega, ?_⟩
  refine lcI_dice (ns := ns) (a := a) (fun i y => ∃ s : Sg, (ws[i]? = some s.name ∧ rs[i]? = some s.ar ∧ 1 ≤ s.wt ∧ s.wt ≤ 9) ∧ y = s.av) d9.at_ (fun _ _ => trivial) (fun _ _ => bd_name) (by rw [rangeA_len]; exact szl (by omega)) ?_ ?_
  · intro i x G' hx d10 ρ2 hb Q1 h1
    subst hb
    obtain ⟨hi, rfl⟩ := rangeA_get hx
    have hi' : i < rs.length := by omega
    have w11 := d10.keep _ _ a11 q11'
    have ww := d10.keep _ _ aw qw
    walk_at "rd"
    refine ⟨_, ww, .str (ws[i]'(by omega)), atI_some (n := i) (by rw [List.getElem?_map, List.getElem?_eq_getElem (by omega)]; rfl) (by omega), _, w11, .int (rs[i]'hi'), atI_some (n := i) (by rw [List.getElem?_map, List.getElem?_eq_getElem hi']; rfl) (by omega), ?_⟩
    refine ⟨ns, a, mx, rfl, rfl, by omega, by omega, d10.at_, fun wt G11 w0 w1 d11 => ?_⟩
    walk_at "rd"
    refine ⟨szl, h1 _ _ ⟨⟨ws[i]'(by omega), rs[i]'hi', (1 + wt).toNat⟩, ⟨by simp, by simp, by show 1 ≤ (1 + wt).toNat; omega, by show (1 + wt).toNat ≤ 9; omega⟩, ?_⟩ d11⟩
    show AV.tup [_, _, .int (1 + wt)] = AV.tup [_, _, .int (((1 + wt).toNat : Nat) : Int)]
    rw [Int.toNat_of_nonneg (by omega)]
  · intro acc G10 hl hR d10 p G11 np
    obtain ⟨S, rfl, hS⟩ := acc_mapI (C := fun i (s : Sg) => ws[i]? = some s.name ∧ rs[i]? = some s.ar ∧ 1 ≤ s.wt ∧ s.wt ≤ 9) (f := Sg.av) hR
    rw [List.length_map, rangeA_len] at hl
    have hSl : S.length = rs.length := by omega
    have e1 : S.map Sg.name = ws := by
      refine List.ext_getElem? fun i => ?_
      rw [List.getElem?_map]
      by_cases hi : i < S.length
      · rw [List.getElem?_eq_getElem hi, (hS i _ (List.getElem?_eq_getElem hi)).1]; rfl
      · rw [List.getElem?_eq_none (by omega), List.getElem?_eq_none (by omega)]; rfl
    have e2 : S.map Sg.ar = rs := by
      refine List.ext_getElem? fun i => ?_
      rw [List.getElem?_map]
      by_cases hi : i < S.length
      · rw [List.getElem?_eq_getElem hi, (hS i _ (List.getElem?_eq_getElem hi)).2.1]; rfl
      · rw [List.getElem?_eq_none (by omega), List.getElem?_eq_none (by omega)]; rfl
    have ok : SgOk 4 S := by
      refine SgOk.of (l := ms) (by rw [e1]; exact hws) (fun s hs => ?_) (by rw [e2]; exact hperm) hall.1 hall.2.1 hall.2.2.1 hall.2.2.2 hml
      obtain ⟨i, hi⟩ := List.getElem?_of_mem hs
      exact (hS i s hi).2.2
    exact dq (h p S G11 ok (by omega) ((d9.trans d10).newN np) ((d9.trans d10).none np.free) np.at_)
-- _law_free
abbrev sp__law_free : ASp := sp1 fun x G Q _ => ∃ ns a, x = .ref a ∧ DiceAt ns a G ∧ ∀ p fr G', fr ∈ menuF → DS ns a G G' → G p = none → G' p = some (.lst (fr.map AV.int)) → Q (.ref p) G'
theorem ok__law_free (T : Txt K mg) : DefOk P w K mg base 3 "_law_free" sp__law_free := by
  have c__law_off := ok__law_off (P := P) (w := w) (base := base) T
  refine T.d__law_free.ok1 sc__law_free rfl (fun f cdv A outer s H E W tk pw hr x1 G Q E0 h => ?_)
  obtain ⟨ns, a, rfl, hd, h⟩ := h
  refine ⟨_, (as_cons (as_set (i := 1) sc__law_free.nd rfl (Or.inl rfl) (ae_ix (ae_lst (aa_cons (ae_lst aa_nil) (aa_cons (ae_lst (aa_cons ae_int aa_nil)) (aa_cons (ae_lst (aa_cons ae_int (aa_cons ae_int aa_nil))) (aa_cons (ae_lst (aa_cons ae_int (aa_cons ae_int (aa_cons ae_int aa_nil)))) (aa_cons (ae_lst (aa_cons ae_int (aa_cons ae_int (aa_cons ae_int (aa_cons ae_int aa_nil))))) aa_nil)))))) (ae_call c__law_off (hr.mono (by first | decide | omega)) tk (aa_cons (av 0) (aa_cons ae_int aa_nil)))))
    (as_one (as_ret (ae_list1 T.m_list (aa_cons (av 1) aa_nil))))), ?_⟩
  walk_at "rd"
  refine ⟨szl, fun p1 H1 n1 => ⟨szl, fun p2 H2 n2 => ⟨szl, fun p3 H3 n3 => ⟨szl, fun p4 H4 n4 => ⟨szl, fun p5 H5 n5 => ⟨szl, fun p6 H6 n6 => ?_⟩⟩⟩⟩⟩⟩
  have a1 := (DS.refl hd).neN n1
  have d := (DS.refl hd).newN n1
  have a2 := d.neN n2; replace d := d.newN n2
  have a3 := d.neN n3; replace d := d.newN n3
  have a4 := d.neN n4; replace d := d.newN n4
  have a5 := d.neN n5; replace d := d.newN n5
  have a6 := d.neN n6; replace d := d.newN n6
  refine ⟨ns, a, 5, rfl, rfl, by decide, by decide, d.at_, fun r G1 r0 r6 d1 => ?_⟩
  obtain ⟨fr, pe, hex, he, hpe, hl⟩ : ∃ (fr : List Int) (pe : Addr), fr ∈ menuF ∧ atI [AV.ref p1, AV.ref p2, AV.ref p3, AV.ref p4, AV.ref p5] r = some (.ref pe) ∧ pe ≠ a ∧ H6 pe = some (.lst (fr.map AV.int)) := by
    have : r = 0 ∨ r = 1 ∨ r = 2 ∨ r = 3 ∨ r = 4 := by omega
    rcases this with rfl | rfl | rfl | rfl | rfl
    · exact ⟨[], p1, by decide, rfl, a1, n6.keep (n5.keep (n4.keep (n3.keep (n2.keep n1.at_))))⟩
    · exact ⟨[0], p2, by decide, rfl, a2, n6.keep (n5.keep (n4.keep (n3.keep n2.at_)))⟩
    · exact ⟨[0, 1], p3, by decide, rfl, a3, n6.keep (n5.keep (n4.keep n3.at_))⟩
    · exact ⟨[999, 0, 7], p4, by decide, rfl, a4, n6.keep (n5.keep n4.at_)⟩
    · exact ⟨[5, 998, 31, 2], p5, by decide, rfl, a5, n6.keep n5.at_⟩
  have q6 := d1.keep _ _ a6 n6.at_
  have qe := d1.keep _ _ hpe hl
  replace d := d.trans d1
  walk_at "rd"
  refine ⟨_, q6, _, he, ?_⟩
  walk_at "rd"
  exact ⟨_, qe, fun p G2 n => dq (h p fr G2 hex (d.newN n) (d.none n.free) n.at_)⟩
-- _law_term
abbrev sp__law_term (n : Nat) : ASp := sp4 fun x y z v G Q _ => ∃ (mx : Nat) (ns : List Int) (a ps : Addr) (S : List Sg) (dp : Nat) (pf : Addr) (fr : List Int), x = .ref a ∧ y = .ref ps ∧ z = .int dp ∧ v = .ref pf ∧ dp < n ∧ mx ≤ 4 ∧ DiceAt ns a G ∧ ps ≠ a ∧ pf ≠ a ∧
  G ps = some (.lst (S.map Sg.av)) ∧ SgT mx S ∧ G pf = some (.lst (fr.map AV.int)) ∧ fr.length ≤ 1000 ∧ ∀ t G', TOk S (· ∈ fr) t → t.depth ≤ dp + 1 → t.size ≤ szB mx dp → DS ns a G G' → Q t.av G'
theorem ok__law_term (T : Txt K mg) (n : Nat) : DefOk P w K mg base (n + 6) "_law_term" (sp__law_term n) := by
  have c__law_off := ok__law_off (P := P) (w := w) (base := base) T
  induction n with
  | zero =>
    refine T.d__law_term.ok4 sc__law_term rfl (fun f cdv A outer s H E W tk pw hr x1 x2 x3 x4 G Q E0 h => ?_)
    obtain ⟨mx, ns, a, ps, S, dp, pf, fr, _, _, _, _, hd, _⟩ := h
    exact absurd hd (Nat.not_lt_zero _)
  | succ n c__law_term =>
    refine T.d__law_term.ok4 sc__law_term rfl (fun f cdv A outer s H E W tk pw hr x1 x2 x3 x4 G Q E0 h => ?_)
    obtain ⟨mx, ns, a, ps, S, dp, pf, fr, rfl, rfl, rfl, rfl, hdp, hmx, hd, hps, hpf, eS, okS, eF, hfl, h⟩ := h
    -- the sign is drawn
    have tail : ∃ u, ASs (bX P w K mg base N__law_term "_law_term" s__law_term f cdv A outer s H E) W ((defBody s__law_term).drop 3) u ∧ ∀ G1 (psm : Addr) (L : List Sg), DS ns a G G1 → psm ≠ a → G1 psm = some (.lst (L.map Sg.av)) → 1 ≤ L.length → L.length ≤ 6 → (∀ s ∈ L, s ∈ S ∧ (dp = 0 → s.ar = 0)) →
        u { nx := fun _ G' => dropQ Q .non G', rt := dropQ Q, ex := fun c _ G' => dropE E0 c G' } [some (.ref a), some (.ref ps), some (.int dp), some (.ref pf), some (.ref psm), none, none] G1 := by
      refine ⟨_, (as_cons (as_set (i := 5) sc__law_term.nd rfl (Or.inl rfl) (ae_ix (av 4) (ae_call c__law_off (hr.mono (by first | decide | omega)) tk (aa_cons (av 0) (aa_cons (ae_len T.m_len (aa_cons (av 4) aa_nil)) aa_nil)))))
    (as_one (as_ret (ae_add (ae_tup (aa_cons (ae_ix (av 5) ae_int) aa_nil)) (ae_tuple1 T.m_tuple (aa_cons (ae_lcR1 (own := [("_law_k", 6)]) T.m_range rfl sc__law_term.nd (aa_cons (ae_ix (av 5) ae_int) aa_nil) (blkOk_by (N := N__law_term) (sc := defScope s__law_term) (by decide +kernel)) (gb_name 6) (fun _ _ _ _ _ => (pg_name (i := 6) sc__law_term.nd rfl (by first | exact Or.inl rfl | exact Or.inr rfl))) (fun _ _ _ _ _ => ats_nil) (fun _ _ _ _ _ => (ae_call c__law_term (hr.mono (by first | decide | omega)) tk_blk (aa_cons (av 0) (aa_cons (av 1) (aa_cons (ae_sub (av 2) ae_int) (aa_cons (av 3) aa_nil))))))) aa_nil)))))), fun G1 psm L d1 hpsm eL hL hL6 hsub => ?_⟩
      walk_at "rd"
      refine .inl ⟨_, eL, ?_⟩
      rw [List.length_map]
      refine ⟨ns, a, _, rfl, rfl, by omega, by omega, d1.at_, fun r2 G2 q0 q1 d2 => ?_⟩
      have eL2 := d2.keep _ _ hpsm eL
      replace d2 := d1.trans d2
      have eS2 := d2.keep _ _ hps eS
      have eF2 := d2.keep _ _ hpf eF
      obtain ⟨k, rfl⟩ : ∃ k : Nat, r2 = (k : Int) := ⟨r2.toNat, by omega⟩
      have hk : k < L.length := by omega
      have hm := hsub _ (List.getElem_mem hk)
      refine ⟨_, eL2, (L[k]).av, atI_some (n := k) (by rw [List.getElem?_map, List.getElem?_eq_getElem hk]; rfl) rfl, ?_⟩
      generalize L[k] = s at *
      obtain ⟨hm, h00⟩ := hm
      have hsar := okS.ar s hm
      unfold Sg.av
      walk_at "rd"
      refine ⟨_, rfl, szl, _, rfl, ?_⟩
      walk_at "rd"
      refine ⟨by omega, by omega, ?_⟩
      refine lcI_dice (ns := ns) (a := a) (fun _ y => ∃ t, (TOk S (· ∈ fr) t ∧ t.depth ≤ dp ∧ t.size ≤ szB mx (dp - 1) ∧ dp ≠ 0) ∧ y = t.av) d2.at_ (fun _ _ => trivial) (fun _ _ => bd_name) (by rw [rangeA_len]; exact szl (by omega)) ?_ ?_
      · intro i x G' hx d3 ρ2 hb Q1 h1
        subst hb
        obtain ⟨hi, rfl⟩ := rangeA_get hx
        have hdp0 : dp ≠ 0 := fun z => by have := h00 z; omega
        walk_at "rd"
        refine ⟨mx, ns, a, ps, S, dp - 1, pf, fr, rfl, rfl, by rw [show ((dp - 1 : Nat) : Int) = (dp : Int) - 1 by omega], rfl, by omega, hmx, d3.at_, hps, hpf, d3.keep _ _ hps eS2, okS, d3.keep _ _ hpf eF2, hfl, fun t G4 t1 t2 t3 d4 => h1 _ _ ⟨t, ⟨t1, by omega, t3, hdp0⟩, rfl⟩ d4⟩
      · intro acc G3 hl hR d3 p G4 np
        obtain ⟨ts, rfl, hts⟩ := acc_map (C := fun t => TOk S (· ∈ fr) t ∧ t.depth ≤ dp ∧ t.size ≤ szB mx (dp - 1) ∧ dp ≠ 0) (f := Tm.av) hR
        rw [List.length_map, rangeA_len] at hl
        walk_at "rd"
        refine ⟨_, np.at_, ?_⟩
        walk_at "rd"
        have hlen : ts.length = s.ar := by omega
        refine ⟨by rw [List.length_map]; exact szl (by omega), ?_⟩
        rw [← Tm.avL_map]
        refine dq (h (.fn s.name ts) G4 (.fn hm hlen fun t ht => (hts t ht).1) ?_ ?_ ((d2.trans d3).newN np))
        · rw [Tm.depth]
          have := Tm.depthL_le fun t ht => (hts t ht).2.1
          omega
        · rw [Tm.size]
          have h1 := sizeL_le fun t ht => (hts t ht).2.2.1
          cases ts with
          | nil => rw [Tm.sizeL]; have := szB_pos mx dp; omega
          | cons t ts =>
            have hd0 := (hts t List.mem_cons_self).2.2.2
            obtain ⟨e, rfl⟩ : ∃ e, dp = e + 1 := ⟨dp - 1, by omega⟩
            rw [szB]
            have e1 : e + 1 - 1 = e := rfl
            rw [e1, hlen] at h1
            have h2 : s.ar * szB mx e ≤ mx * szB mx e := Nat.mul_le_mul_right _ hsar
            omega
    obtain ⟨u, hu, tail⟩ := tail
    have mid : ∃ u, ASs (bX P w K mg base N__law_term "_law_term" s__law_term f cdv A outer s H E) W ((defBody s__law_term).drop 1) u ∧ ∀ G1, DS ns a G G1 → u { nx := fun _ G' => dropQ Q .non G', rt := dropQ Q, ex := fun c _ G' => dropE E0 c G' } [some (.ref a), some (.ref ps), some (.int dp), some (.ref pf), none, none, none] G1 := by
      refine ⟨_, as_cons (as_set (i := 4) sc__law_term.nd rfl (Or.inl rfl) (av 1)) (as_cons (as_if (at_eq hr (av 2) ae_int) (as_one (as_lcL (own := [("_law_sign", 5)]) (i := 4) rfl sc__law_term.nd rfl rfl (sw_true rfl rfl rfl (by decide +kernel)) (av 1) (blkOk_by (N := N__law_term) (sc := defScope s__law_term) (by decide +kernel)) (gb_name 5) (fun _ _ _ _ _ => (pg_name (i := 5) sc__law_term.nd rfl (by first | exact Or.inl rfl | exact Or.inr rfl))) (fun _ _ _ _ _ => (ats_one (at_eq hr (ae_ix (av 5) ae_int) ae_int))) (fun _ _ _ _ _ => (av 5)))) as_nil) hu), fun G1 d1 => ?_⟩
      have eS1 := d1.keep _ _ hps eS
      walk_at "rd"
      refine ite2 (fun e0 => ?_) (fun e0 => ?_)
      · have e0 : (dp : Int) = 0 := of_decide_eq_true e0
        refine ⟨_, eS1, ?_⟩
        refine lcI_filter (fun s : Sg => decide (s.ar = 0)) Sg.av (szl (Nat.le_trans okS.len (by decide))) eS1 (fun _ _ => bd_name) ?_ ?_ ?_
        · intro s hs ρ2 hb Qb hQ
          subst hb
          unfold Sg.av
          walk_at "rd"
          refine ⟨_, rfl, ?_⟩
          walk_at "rd"
          have e : decide ((s.ar : Int) = 0) = decide (s.ar = 0) := by
            by_cases hz : s.ar = 0
            · rw [hz]; rfl
            · rw [decide_eq_false hz, decide_eq_false (by omega)]
          rw [e]
          exact hQ
        · intro s hs _ ρ2 hb Q1 hQ
          subst hb
          exact hQ
        · intro p' G2 np
          refine tail G2 p' (S.filter fun s => decide (s.ar = 0)) (d1.newN np) (d1.neN np) np.at_ (Nat.le_trans (by decide) okS.c0) (Nat.le_trans (List.length_filter_le _ _) okS.len) fun s hs => ?_
          rw [List.mem_filter] at hs
          exact ⟨hs.1, fun _ => of_decide_eq_true hs.2⟩
      · have e0 : ¬ (dp : Int) = 0 := fun z => e0 (decide_eq_true z)
        exact tail G1 ps S d1 hps eS1 okS.l1 okS.len fun s hs => ⟨hs, fun z => absurd (by omega) e0⟩
    obtain ⟨u, hu, mid⟩ := mid
    refine ⟨_, as_cons (as_if (at_w (aw_and (at_ne hr (av 3) (ae_lst aa_nil)) (aw_and1 (at_eq hr (ae_call c__law_off (hr.mono (by first | decide | omega)) tk (aa_cons (av 0) (aa_cons ae_int aa_nil))) ae_int)))) (as_one (as_ret (ae_ix (av 3) (ae_call c__law_off (hr.mono (by first | decide | omega)) tk (aa_cons (av 0) (aa_cons (ae_len T.m_len (aa_cons (av 3) aa_nil)) aa_nil)))))) as_nil) hu, ?_⟩
    walk_at "rd"
    refine ⟨szl, fun p0 H0 n0 => ?_⟩
    refine fEq_ints (ns := []) (n0.keep eF) n0.at_ fun c hc => ?_
    have d0 := (DS.refl hd).newN n0
    walk_at "rd"
    refine ite2 (fun hne => ?_) (fun _ => mid _ d0)
    refine ⟨ns, a, 3, rfl, rfl, by decide, by decide, d0.at_, fun r G1 r0 r3 d1 => ?_⟩
    replace d1 := d0.trans d1
    walk_at "rd"
    refine ite2 (fun _ => ?_) (fun _ => mid _ d1)
    have eF1 := d1.keep _ _ hpf eF
    refine .inl ⟨_, eF1, ?_⟩
    rw [List.length_map]
    have hfr : 0 < fr.length := by
      cases fr with
      | nil => rw [hc.mpr rfl] at hne; cases hne
      | cons _ _ => exact Nat.zero_lt_succ _
    refine ⟨ns, a, _, rfl, rfl, by omega, by omega, d1.at_, fun r2 G2 q0 q1 d2 => ?_⟩
    have eF2 := d2.keep _ _ hpf eF1
    obtain ⟨k, rfl⟩ : ∃ k : Nat, r2 = (k : Int) := ⟨r2.toNat, by omega⟩
    have hk : k < fr.length := by omega
    walk_at "rd"
    refine ⟨_, eF2, .int fr[k], atI_some (n := k) (by rw [List.getElem?_map, List.getElem?_eq_getElem hk]; rfl) rfl, dq (h (.bl fr[k]) G2 (.bl (List.getElem_mem hk)) (by rw [Tm.depth]; omega) (by rw [Tm.size]; exact szB_pos _ _) (d1.trans d2))⟩
-- _law_tall
abbrev sp__law_tall : ASp := sp2 fun x y G Q _ => ∃ (ns : List Int) (a : Addr) (t : Tm), x = .ref a ∧ y = t.av ∧ DiceAt ns a G ∧ ∀ k G', k < 150 → DS ns a G G' → Q (Tm.upN "up" k t).av G'
theorem ok__law_tall (T : Txt K mg) : DefOk P w K mg base 6 "_law_tall" sp__law_tall := by
  have c__law_off := ok__law_off (P := P) (w := w) (base := base) T
  refine T.d__law_tall.ok2 sc__law_tall rfl (fun f cdv A outer s H E W tk pw hr x1 x2 G Q E0 h => ?_)
  obtain ⟨ns, a, t, rfl, rfl, hd, h⟩ := h
  have tail : ∃ u, ASs (bX P w K mg base N__law_tall "_law_tall" s__law_tall f cdv A outer s H E) W ((defBody s__law_tall).drop 1) u ∧ ∀ G1 k y, k < 150 → DS ns a G G1 → u { nx := fun _ G' => dropQ Q .non G', rt := dropQ Q, ex := fun c _ G' => dropE E0 c G' } [some (.ref a), some (Tm.upN "up" k t).av, y] G1 := by
    refine ⟨_, (as_one (as_ret (av 1))), fun G1 k y hk d1 => ?_⟩
    walk_at "rd"
    exact dq (h k G1 hk d1)
  obtain ⟨u, hu, tail⟩ := tail
  refine ⟨_, as_cons (as_if (at_eq hr (ae_call c__law_off (hr.mono (by first | decide | omega)) tk (aa_cons (av 0) (aa_cons ae_int aa_nil))) ae_int) (as_one (as_forR1 T.m_range pw rfl (aa_cons (ae_call c__law_off (hr.mono (by first | decide | omega)) tk (aa_cons (av 0) (aa_cons ae_int aa_nil))) aa_nil) (ag_name (i := 2) sc__law_tall.nd rfl (Or.inl rfl)) (as_one (as_set (i := 1) sc__law_tall.nd rfl (Or.inl rfl) (ae_tup (aa_cons ae_str (aa_cons (av 1) aa_nil))))))) as_nil) hu, ?_⟩
  walk_at "rd"
  refine ⟨ns, a, 4, rfl, rfl, by decide, by decide, hd, fun r G1 r0 r4 d1 => ?_⟩
  walk_at "rd"
  refine ite2 (fun _ => ?_) (fun _ => tail G1 0 _ (by decide) d1)
  refine ⟨ns, a, 150, rfl, rfl, by decide, by decide, d1.at_, fun r2 G2 q0 q1 d2 => ?_⟩
  replace d2 := d1.trans d2
  walk_at "rd"
  refine ⟨by omega, by omega, fun i ρ G' => G' = G2 ∧ ∃ y, ρ = [some (.ref a), some (Tm.upN "up" i t).av, y], ⟨rfl, _, rfl⟩, fun _ _ _ _ => trivial, ?_, ?_⟩
  · rintro i x ρ G' hx ⟨rfl, y, rfl⟩
    obtain ⟨hi, rfl⟩ := rangeA_get hx
    walk_at "rd"
    exact ⟨szl, _, rfl⟩
  · rintro ρ G' ⟨rfl, y, rfl⟩
    rw [rangeA_len]
    exact tail _ _ _ (by omega) d2
-- _law_places
abbrev sp__law_places (d : Nat) : ASp := sp1 fun x G Q _ => ∃ t : Tm, x = t.av ∧ t.depth < d ∧ t.size ≤ 100000 ∧ ∀ p G', New G p (.lst (t.places.map plA)) G' → Q (.ref p) G'
theorem ok__law_places (T : Txt K mg) (d : Nat) : DefOk P w K mg base (d + 1) "_law_places" (sp__law_places d) := by
  induction d with
  | zero =>
    refine T.d__law_places.ok1 sc__law_places rfl (fun f cdv A outer s H E W tk pw hr x1 G Q E0 h => ?_)
    obtain ⟨t, _, hd, _⟩ := h
    exact absurd hd (Nat.not_lt_zero _)
  | succ d c__law_places =>
    refine T.d__law_places.ok1 sc__law_places rfl (fun f cdv A outer s H E W tk pw hr x1 G Q E0 h => ?_)
    obtain ⟨t, rfl, hd, hs, h⟩ := h
    have tail : ∃ u, ASs (bX P w K mg base N__law_places "_law_places" s__law_places f cdv A outer s H E) W ((defBody s__law_places).drop 2) u ∧ ∀ G1 (pf : Addr) (fd : List (List Nat)) o1 o2, GSub G G1 → G1 pf = some (.lst (fd.map plA)) → fd.length ≤ 100000 → t.places = fd ++ [[]] →
        u { nx := fun _ G' => dropQ Q .non G', rt := dropQ Q, ex := fun c _ G' => dropE E0 c G' } [some t.av, some (.ref pf), o1, o2] G1 := by
      refine ⟨_, (as_one (as_ret (ae_add (av 1) (ae_lst (aa_cons (ae_tup aa_nil) aa_nil))))), fun G1 pf fd o1 o2 sb ef hl he => ?_⟩
      walk_at "rd"
      refine ⟨szl, szl, fun p1 G2 n1 => ⟨_, _, n1.keep ef, n1.at_, ?_, fun p2 G3 n2 => ?_⟩⟩
      · rw [List.length_map]; show _ + 1 ≤ _; exact big6 (by omega)
      · have e := n2.at_
        refine dqn h (sb.trans (n1.sub.trans n2.sub)) (sb.none (n1.none n2.free)) ?_
        rw [e, he, List.map_append]
        rfl
    obtain ⟨u, hu, tail⟩ := tail
    refine ⟨_, as_cons (as_set (i := 1) sc__law_places.nd rfl (Or.inl rfl) (ae_lst aa_nil)) (as_cons (as_if (at_not (at_truth (ae_isi T.m_isinstance (aa_cons (av 0) (aa_cons (ae_ty T.m_int bt_int) aa_nil))))) (as_one (as_forR2 T.m_range pw rfl (aa_cons ae_int (aa_cons (ae_len T.m_len (aa_cons (av 0) aa_nil)) aa_nil)) (ag_name (i := 2) sc__law_places.nd rfl (Or.inr rfl)) (as_one (as_set (i := 1) sc__law_places.nd rfl (Or.inl rfl) (ae_add (av 1) (ae_lcL (own := [("_law_place", 3)]) rfl sc__law_places.nd (ae_call c__law_places (hr.mono (by first | decide | omega)) tk (aa_cons (ae_ix (av 0) (av 2)) aa_nil)) (blkOk_by (N := N__law_places) (sc := defScope s__law_places) (by decide +kernel)) (gb_name 3) (fun _ _ _ _ _ => (pg_name (i := 3) sc__law_places.nd rfl (by first | exact Or.inl rfl | exact Or.inr rfl))) (fun _ _ _ _ _ => ats_nil) (fun _ _ _ _ _ => (ae_add (ae_tup (aa_cons (av 2) aa_nil)) (av 3))))))))) as_nil) hu), ?_⟩
    walk_at "rd"
    refine ⟨szl, fun pf G1 n1 => ?_⟩
    cases t with
    | bl n =>
      walk_at "rd"
      refine ⟨by decide +kernel, iteF (tail G1 pf [] _ _ n1.sub n1.at_ (by decide) rfl)⟩
    | fn g ts =>
      rw [Tm.size] at hs
      rw [Tm.depth] at hd
      walk_at "rd"
      refine ⟨by decide +kernel, iteT ?_⟩
      have hln := Tm.length_le_sizeL ts
      rw [Tm.avL_length]
      walk_at "rd"
      refine ⟨by omega, ?_⟩
      have hn : (((ts.length + 1 : Nat) : Int) - 1).toNat = ts.length := by omega
      rw [hn]
      refine ⟨fun i ρ G' => ∃ pf o1 o2, ρ = [some (AV.tup (AV.str g :: Tm.avL ts)), some (.ref pf), o1, o2] ∧ GSub G G' ∧ G' pf = some (.lst ((Tm.placesL 1 (ts.take i)).map plA)), ⟨pf, _, _, rfl, n1.sub, n1.at_⟩, fun _ _ _ _ => trivial, ?_, ?_⟩
      · rintro i x ρ G' hx ⟨pf, o1, o2, rfl, sb, ef⟩
        obtain ⟨hi, rfl⟩ := rangeA_get hx
        have ht : ts[i]? = some ts[i] := List.getElem?_eq_getElem hi
        have hm := List.mem_of_getElem? ht
        have h2 := Tm.depth_le_of_mem hm
        have h3 := Tm.size_le_of_mem hm
        walk_at "rd"
        refine ⟨ts[i].av, ?_, ts[i], rfl, by omega, by omega, fun q G2 nq => ?_⟩
        · exact atI_some (n := i + 1) (by rw [List.getElem?_cons_succ, Tm.avL_map, List.getElem?_map, ht]; rfl) (by omega)
        generalize ts[i] = t at *
        walk_at "rd"
        refine ⟨_, nq.at_, ?_⟩
        have hpl := Tm.places_len t
        refine lcI_pure ((t.places.map ((i + 1) :: ·)).map plA) (by rw [List.length_map, List.length_map, List.length_map]) (by rw [List.length_map]; exact big6 (by omega)) nq.at_ (fun _ _ => bd_name) ?_ ?_
        · intro j x y hx hy ρ2 hb Q1 h1
          obtain ⟨p, hp, rfl⟩ := map_get hx
          obtain ⟨p', hp', rfl⟩ := map_get hy
          rw [List.getElem?_map, hp] at hp'
          cases hp'
          have hpm := Tm.place_len (List.mem_of_getElem? hp)
          have hds := Tm.depth_le_size t
          subst hb
          unfold plA
          walk_at "rd"
          refine ⟨szl, ?_, ?_⟩
          · rw [List.length_map]; show 1 + p.length ≤ _; exact big6 (by omega)
          · have e : ((1 : Int) + (i : Int)) = ((i + 1 : Nat) : Int) := by omega
            rw [e]
            exact h1
        · intro p G3 np
          have ef3 := np.keep (nq.keep ef)
          have hpl2 := Tm.placesL_len 1 (ts.take i)
          have hsz : Tm.sizeL (ts.take i) + Tm.sizeL (ts.drop i) = Tm.sizeL ts := by rw [← Tm.sizeL_append, List.take_append_drop]
          have et : ts.take (i + 1) = ts.take i ++ [t] := by rw [List.take_add_one, ht]; rfl
          have hli : (ts.take i).length = i := by rw [List.length_take]; omega
          refine ⟨_, _, ef3, np.at_, ?_, fun r G4 nr => ⟨r, _, _, rfl, sb.trans (nq.sub.trans (np.sub.trans nr.sub)), ?_⟩⟩
          · simp only [List.length_map]; exact big6 (by omega)
          · rw [nr.at_, et, Tm.placesL_append, hli, Tm.placesL, Tm.placesL, List.append_nil, List.map_append, Nat.add_comm 1 i]
      · rintro ρ G' ⟨pf, o1, o2, rfl, sb, ef⟩
        rw [rangeA_len, List.take_length] at ef
        exact tail G' pf _ _ _ sb ef (by rw [Tm.placesL_len]; omega) (by rw [Tm.places])
-- _law_part
abbrev sp__law_part : ASp := sp2 fun x y G Q _ => ∃ (t : Tm) (p : List Int), x = t.av ∧ y = plI p ∧ (Tm.partI t p = none → Q .non G) ∧ ∀ u, Tm.partI t p = some u → Q u.av G
theorem ok__law_part (T : Txt K mg) : DefOk P w K mg base 2 "_law_part" (sp__law_part) := by
  refine T.d__law_part.ok2 sc__law_part rfl (fun f cdv A outer s H E W tk pw hr x1 x2 G Q E0 h => ?_)
  obtain ⟨t, p, rfl, rfl, hno, hyes⟩ := h
  refine ⟨_, (as_cons (as_forT pw rfl (av 1) (ag_name (i := 2) sc__law_part.nd rfl (Or.inl rfl)) (as_cons (as_if (at_w (aw_or (at_truth (ae_isi T.m_isinstance (aa_cons (av 0) (aa_cons (ae_ty T.m_int bt_int) aa_nil)))) (aw_or1 (at_not (at_chain op_le (lf_i fun _ _ _ => .bl _) op_lt (lf_i fun _ _ _ => .bl _) ae_int (av 2) (ae_len T.m_len (aa_cons (av 0) aa_nil))))))) (as_one (as_ret ae_non)) as_nil)
    (as_one (as_set (i := 0) sc__law_part.nd rfl (Or.inl rfl) (ae_ix (av 0) (av 2))))))
    (as_one (as_ret (av 0)))), ?_⟩
  unfold plI
  walk_at "rd"
  refine ⟨fun i ρ G' => G' = G ∧ ∃ u o, ρ = [some (Tm.av u), some (.tup (p.map .int)), o] ∧ Tm.partI u (p.drop i) = Tm.partI t p, ⟨rfl, _, _, rfl, rfl⟩, fun _ _ _ _ => trivial, ?_, ?_⟩
  · rintro i x ρ G' hx ⟨rfl, u, o, rfl, hp⟩
    obtain ⟨k, hk, rfl⟩ := map_get hx
    rw [drop_cons hk] at hp
    walk_at "rd"
    have nor : Tm.partI u (k :: p.drop (i + 1)) = none → dropQ Q .non G' := fun z => dq (hno (by rw [← hp, z]))
    cases u with
    | bl n =>
      walk_at "rd"
      exact ⟨by decide +kernel, iteT (nor rfl)⟩
    | fn f ts =>
      rw [Tm.partI] at nor hp
      walk_at "rd"
      refine ⟨by decide +kernel, iteF ?_⟩
      by_cases h1 : 1 ≤ k
      · rw [decide_eq_true h1]
        walk_at "rd"
        rw [Tm.avL_length]
        by_cases h2 : k < (ts.length : Int) + 1
        · rw [decide_eq_true (by push_cast; omega)]
          walk_at "rd"
          rw [if_pos ⟨h1, h2⟩] at hp
          have hi : k.toNat - 1 < ts.length := by omega
          refine iteF ⟨ts[k.toNat - 1].av, ?_, ?_⟩
          · refine atI_some (n := (k.toNat - 1) + 1) ?_ (by omega)
            rw [List.getElem?_cons_succ, Tm.avL_map, List.getElem?_map, List.getElem?_eq_getElem hi]; rfl
          rw [List.getElem?_eq_getElem hi] at hp
          exact ⟨_, _, rfl, hp⟩
        · rw [decide_eq_false (by push_cast; omega)]
          walk_at "rd"
          rw [if_neg (fun z => h2 z.2)] at nor
          exact iteT (nor rfl)
      · rw [decide_eq_false h1]
        walk_at "rd"
        rw [if_neg (fun z => h1 z.1)] at nor
        exact iteT (nor rfl)
  · rintro ρ G' ⟨rfl, u, o, rfl, hp⟩
    rw [List.length_map, List.drop_length, Tm.partI_nil] at hp
    walk_at "rd"
    exact dq (hyes u hp.symm)
-- _law_put
abbrev sp__law_put (d : Nat) : ASp := sp3 fun x y z G Q _ => ∃ (t : Tm) (p : List Nat) (v : Tm), x = t.av ∧ y = plA p ∧ z = v.av ∧ (Tm.part t p).isSome ∧ t.depth < d ∧ t.size ≤ 100000 ∧ Q (Tm.put t p v).av G
theorem ok__law_put (T : Txt K mg) (d : Nat) : DefOk P w K mg base (d + 5) "_law_put" (sp__law_put d) := by
  induction d with
  | zero =>
    refine T.d__law_put.ok3 sc__law_put rfl (fun f cdv A outer s H E W tk pw hr x1 x2 x3 G Q E0 h => ?_)
    obtain ⟨t, _, _, _, _, _, _, hd, _⟩ := h
    exact absurd hd (Nat.not_lt_zero _)
  | succ d c__law_put =>
    refine T.d__law_put.ok3 sc__law_put rfl (fun f cdv A outer s H E W tk pw hr x1 x2 x3 G Q E0 h => ?_)
    obtain ⟨t, p, v, rfl, rfl, rfl, hp, hd, hs, h⟩ := h
    refine ⟨_, (as_cons (as_if (at_eq hr (av 1) (ae_tup aa_nil)) (as_one (as_ret (av 2))) as_nil)
    (as_cons (as_set (i := 3) sc__law_put.nd rfl (Or.inl rfl) (ae_call c__law_put (hr.mono (by first | decide | omega)) tk (aa_cons (ae_ix (av 0) (ae_ix (av 1) ae_int)) (aa_cons (ae_slice (av 1) (ap_some ae_int) ap_none) (aa_cons (av 2) aa_nil)))))
    (as_one (as_ret (ae_add (ae_add (ae_slice (av 0) ap_none (ap_some (ae_ix (av 1) ae_int))) (ae_tup (aa_cons (av 3) aa_nil))) (ae_slice (av 0) (ap_some (ae_add (ae_ix (av 1) ae_int) ae_int)) ap_none)))))), ?_⟩
    walk_at "rd"
    refine ⟨szl, ?_⟩
    unfold plA
    walk_at "rd"
    refine fEq_pl (q := []) fun c hc => ?_
    walk_at "rd"
    cases c with
    | true =>
      rw [hc.mp rfl] at h
      have e : Tm.put t [] v = v := by cases t <;> rfl
      rw [e] at h
      walk_at "rd"
      exact dq h
    | false =>
      cases p with
      | nil => exact absurd (hc.mpr rfl) (by decide)
      | cons k p =>
        cases t with
        | bl n => rw [Tm.part] at hp; cases hp
        | fn f ts =>
          rw [Tm.part] at hp
          rw [Tm.size] at hs
          rw [Tm.depth] at hd
          have hk : k ≠ 0 := fun z => by rw [if_pos z] at hp; cases hp
          rw [if_neg hk] at hp
          cases ht : ts[k - 1]? with
          | none => rw [ht] at hp; cases hp
          | some t =>
            rw [ht] at hp
            rw [Tm.put, ht] at h
            have hm := List.mem_of_getElem? ht
            have hi := (List.getElem?_eq_some_iff.mp ht).1
            have h2 := Tm.depth_le_of_mem hm
            have h3 := Tm.size_le_of_mem hm
            have hln := Tm.length_le_sizeL ts
            obtain ⟨j, rfl⟩ : ∃ j, k = j + 1 := ⟨k - 1, by omega⟩
            have ht : ts[j]? = some t := ht
            have hi : j < ts.length := hi
            have h : Q (Tm.fn f (ts.set j (Tm.put t p v))).av G := h
            walk_at "rd"
            refine ⟨_, atI_zero, t.av, ?_, ?_⟩
            · exact atI_some (n := j + 1) (by rw [List.getElem?_cons_succ, Tm.avL_map, List.getElem?_map, ht]; rfl) rfl
            rw [cutA_1]
            refine ⟨t, p, v, rfl, rfl, rfl, hp, by omega, by omega, ?_⟩
            walk_at "rd"
            refine ⟨_, atI_zero, ?_⟩
            walk_at "rd"
            rw [cutA_to (AV.str f :: Tm.avL ts) (j + 1)]
            refine ⟨szl, ?_, _, atI_zero, ?_⟩
            · rw [List.length_take]; exact big6 (by omega)
            walk_at "rd"
            rw [cutA_fromK (k := ((j + 1 : Nat) : Int) + 1) (j + 2) (by omega)]
            refine ⟨?_, ?_⟩
            · rw [List.length_append, List.length_take, List.length_drop, List.length_cons, Tm.avL_length]; exact big6 (by show _ + 1 + _ ≤ _; omega)
            · have e : AV.tup ((AV.str f :: Tm.avL ts).take (j + 1) ++ [(Tm.put t p v).av] ++ (AV.str f :: Tm.avL ts).drop (j + 2)) = (Tm.fn f (ts.set j (Tm.put t p v))).av := by
                rw [av_fn, List.take_succ_cons, List.drop_succ_cons, Tm.avL_map, Tm.avL_map, List.map_set, List.set_eq_take_append_cons_drop, if_pos (by rw [List.length_map]; exact hi)]
                simp
              rw [e]
              exact dq h
-- _law_same
abbrev sp__law_same (d : Nat) : ASp := sp2 fun x y G Q _ => ∃ (s t : Tm), x = s.av ∧ y = t.av ∧ t.depth < d ∧ t.size ≤ sizeLine ∧ ∀ b : Bool, (b = true ↔ s = t) → Q (.bl b) G
theorem ok__law_same (T : Txt K mg) (d : Nat) : DefOk P w K mg base (d + 5) "_law_same" (sp__law_same d) := by
  induction d with
  | zero =>
    refine T.d__law_same.ok2 sc__law_same rfl (fun f cdv A outer s H E W tk pw hr x1 x2 G Q E0 h => ?_)
    obtain ⟨s, t, _, _, hd, _⟩ := h
    exact absurd hd (Nat.not_lt_zero _)
  | succ d c__law_same =>
    refine T.d__law_same.ok2 sc__law_same rfl (fun f cdv A outer s H E W tk pw hr x1 x2 G Q E0 h => ?_)
    obtain ⟨s, t, rfl, rfl, hd, hs, h⟩ := h
    refine ⟨_, (as_cons (as_if (at_truth (ae_isi T.m_isinstance (aa_cons (av 1) (aa_cons (ae_ty T.m_int bt_int) aa_nil)))) (as_one (as_ret (ae_and (ae_isi T.m_isinstance (aa_cons (av 0) (aa_cons (ae_ty T.m_int bt_int) aa_nil))) (ae_and (ae_not (ae_isi T.m_isinstance (aa_cons (av 0) (aa_cons (ae_ty T.m_bool bt_bool) aa_nil)))) (ae_one (ae_eq hr (av 0) (av 1))))))) as_nil)
    (as_cons (as_if (at_w (aw_or (at_not (at_truth (ae_isi T.m_isinstance (aa_cons (av 0) (aa_cons (ae_ty T.m_tuple bt_tuple) aa_nil))))) (aw_or1 (at_ne hr (ae_len T.m_len (aa_cons (av 0) aa_nil)) (ae_len T.m_len (aa_cons (av 1) aa_nil)))))) (as_one (as_ret ae_bl)) as_nil)
    (as_cons (as_if (at_w (aw_or (at_not (at_truth (ae_isi T.m_isinstance (aa_cons (ae_ix (av 0) ae_int) (aa_cons (ae_ty T.m_str bt_str) aa_nil))))) (aw_or1 (at_ne hr (ae_ix (av 0) ae_int) (ae_ix (av 1) ae_int))))) (as_one (as_ret ae_bl)) as_nil)
    (as_cons (as_forZ T.m_zip pw rfl (aa_cons (ae_slice (av 0) (ap_some ae_int) ap_none) (aa_cons (ae_slice (av 1) (ap_some ae_int) ap_none) aa_nil)) (ag_tup (n := 2) rfl (ags_cons (ag_name (i := 2) sc__law_same.nd rfl (Or.inl rfl)) (ags_cons (ag_name (i := 3) sc__law_same.nd rfl (Or.inl rfl)) ags_nil))) (as_one (as_if (at_not (at_truth (ae_call c__law_same (hr.mono (by first | decide | omega)) tk (aa_cons (av 2) (aa_cons (av 3) aa_nil))))) (as_one (as_ret ae_bl)) as_nil)))
    (as_one (as_ret ae_bl)))))), ?_⟩
    walk_at "rd"
    cases t with
    | bl n =>
      walk_at "rd"
      refine ⟨by decide +kernel, iteT ?_⟩
      cases s with
      | bl m =>
        walk_at "rd"
        refine ⟨by decide +kernel, iteT ⟨by decide +kernel, iteT (dq (h _ ?_))⟩⟩
        simp
      | fn f ss =>
        walk_at "rd"
        exact ⟨by decide +kernel, iteF (dq (h false (by simp)))⟩
    | fn g ts =>
      rw [Tm.size] at hs
      rw [Tm.depth] at hd
      walk_at "rd"
      refine ⟨by decide +kernel, iteF ?_⟩
      cases s with
      | bl m =>
        walk_at "rd"
        exact ⟨by decide +kernel, iteT (dq (h false (by simp)))⟩
      | fn f ss =>
        walk_at "rd"
        refine ⟨by decide +kernel, iteF ?_⟩
        rw [Tm.avL_length, Tm.avL_length]
        refine ite2 (fun hne => dq (h false ?_)) (fun heq => ?_)
        · have hne : ¬ ((ss.length + 1 : Nat) : Int) = ((ts.length + 1 : Nat) : Int) := by simpa using hne
          constructor
          · intro z; cases z
          · intro z; cases z; exact absurd rfl hne
        have heq : ss.length = ts.length := by
          have : ((ss.length + 1 : Nat) : Int) = ((ts.length + 1 : Nat) : Int) := by simpa using heq
          omega
        refine ⟨_, atI_zero, ?_⟩
        walk_at "rd"
        refine ⟨by decide +kernel, iteF ⟨_, atI_zero, _, atI_zero, ?_⟩⟩
        walk_at "rd"
        refine ite2 (fun hne => dq (h false ?_)) (fun hfg => ?_)
        · have hne : ¬ f = g := by simpa using hne
          constructor
          · intro z; cases z
          · intro z; cases z; exact absurd rfl hne
        have hfg : f = g := by simpa using hfg
        subst hfg
        rw [cutA_1, cutA_1]
        refine ⟨by rw [Tm.avL_length, Tm.avL_length]; exact heq, ?_⟩
        have zg : ∀ (i : Nat) x, (zipA (Tm.avL ss) (Tm.avL ts))[i]? = some x → ∃ s t, ss[i]? = some s ∧ ts[i]? = some t ∧ x = .tup [s.av, t.av] := by
          intro i x hx
          unfold zipA at hx
          rw [List.getElem?_zipWith, Tm.avL_map, Tm.avL_map, List.getElem?_map, List.getElem?_map] at hx
          cases e1 : ss[i]? with
          | none => rw [e1] at hx; simp at hx
          | some s =>
            cases e2 : ts[i]? with
            | none => rw [e1, e2] at hx; simp at hx
            | some t => rw [e1, e2] at hx; cases hx; exact ⟨s, t, rfl, rfl, rfl⟩
        refine ⟨fun i ρ G' => GSub G G' ∧ (∃ o1 o2, ρ = [some (AV.tup (AV.str f :: Tm.avL ss)), some (AV.tup (AV.str f :: Tm.avL ts)), o1, o2]) ∧ ss.take i = ts.take i, ⟨.refl, ⟨_, _, rfl⟩, rfl⟩, fun _ _ _ _ => trivial, ?_, ?_⟩
        · rintro i x ρ G' hx ⟨sb, ⟨o1, o2, rfl⟩, hpre⟩
          obtain ⟨s, t, e1, e2, rfl⟩ := zg i x hx
          have hm := List.mem_of_getElem? e2
          have h2 := Tm.depth_le_of_mem hm
          have h3 := Tm.size_le_of_mem hm
          walk_at "rd"
          refine ⟨s, t, rfl, rfl, by omega, by omega, fun b hb => ?_⟩
          walk_at "rd"
          have e3 : ss.take (i + 1) = ss.take i ++ [s] := by rw [List.take_add_one, e1]; rfl
          have e4 : ts.take (i + 1) = ts.take i ++ [t] := by rw [List.take_add_one, e2]; rfl
          cases b with
          | true =>
            walk_at "rd"
            refine ⟨sb, ⟨_, _, rfl⟩, ?_⟩
            rw [e3, e4, hpre, hb.mp rfl]
          | false =>
            walk_at "rd"
            refine dqs (h false ?_) sb
            constructor
            · intro z; cases z
            · intro z
              cases z
              rw [e1] at e2
              cases e2
              exact hb.mpr rfl
        · rintro ρ G' ⟨sb, ⟨o1, o2, rfl⟩, hpre⟩
          rw [zipA_len (by rw [Tm.avL_length, Tm.avL_length]; exact heq), Tm.avL_length, List.take_length, heq, List.take_length] at hpre
          walk_at "rd"
          refine dqs (h true ?_) sb
          rw [hpre]
          simp
-- _law_refused
theorem ok_is_blankH (T : Txt K mg) : DefH P w K mg base 1 "is_blank" sp_is_blank := by
  refine T.d_is_blank.hot1 sc_is_blank rfl (fun f cdv A outer s H E q W tk hc hr x1 G Q E0 h => ?_)
  obtain ⟨t, rfl, h⟩ := h
  refine ⟨_, (as_one (as_ret (ae_isi T.m_isinstance (aa_cons (av 0) (aa_cons (ae_ty T.m_int bt_int) aa_nil))))), ?_⟩
  walk_at "rd"
  cases t with
  | bl n => exact ⟨by decide +kernel, dq h⟩
  | fn g ts => exact ⟨by decide +kernel, dq h⟩
theorem ok_put_atH (T : Txt K mg) (d : Nat) : DefH P w K mg base (d + 5) "put_at" (sp_put_at mg d) := by
  have c_is_blank := ok_is_blankH (P := P) (w := w) (base := base) T
  induction d with
  | zero =>
    refine T.d_put_at.hot3 sc_put_at rfl (fun f cdv A outer s H E q W tk hc hr x1 x2 x3 G Q E0 h => ?_)
    obtain ⟨t, _, _, _, _, _, hd, _⟩ := h
    exact absurd hd (Nat.not_lt_zero _)
  | succ d c_put_at =>
    refine T.d_put_at.hot3 sc_put_at rfl (fun f cdv A outer s H E q W tk hc hr x1 x2 x3 G Q E0 h => ?_)
    obtain ⟨t, p, v, rfl, rfl, rfl, hd, hs, hno, hyes⟩ := h
    refine ⟨_, (as_cons (as_if (at_eqH hr (av 1) (ae_tup aa_nil)) (as_one (as_ret (av 2))) as_nil)
    (as_cons (as_set (i := 3) sc_put_at.nd rfl (Or.inl rfl) (ae_ix (av 1) ae_int))
    (as_cons (as_if (at_w (aw_or (at_truth (ae_callH c_is_blank (hr.mono (by first | decide | omega)) hc tk (aa_cons (av 0) aa_nil))) (aw_or1 (at_not (at_chain op_le (lf_i fun _ _ _ => .bl _) op_lt (lf_i fun _ _ _ => .bl _) ae_int (av 3) (ae_len T.m_len (aa_cons (av 0) aa_nil))))))) (as_one (as_raiseH hc tk T.x_NoPlace)) as_nil)
    (as_one (as_ret (ae_add (ae_add (ae_slice (av 0) ap_none (ap_some (av 3))) (ae_tup (aa_cons (ae_callH c_put_at (hr.mono (by first | decide | omega)) hc tk (aa_cons (ae_ix (av 0) (av 3)) (aa_cons (ae_slice (av 1) (ap_some ae_int) ap_none) (aa_cons (av 2) aa_nil)))) aa_nil))) (ae_slice (av 0) (ap_some (ae_add (av 3) ae_int)) ap_none))))))), ?_⟩
    unfold plI
    walk_at "rd"
    refine ⟨szl, ?_⟩
    refine fEq_plI (q := []) fun c hc => ?_
    walk_at "rd"
    cases p with
    | nil =>
      rw [hc.mpr rfl]
      rw [Tm.partI_nil, Tm.putI_nil] at hyes
      walk_at "rd"
      exact dq (hyes rfl)
    | cons k p =>
      have hcf : c = false := by cases c with | false => rfl | true => exact absurd (hc.mp rfl) (by simp)
      subst hcf
      walk_at "rd"
      refine ⟨_, atI_zero, ?_⟩
      walk_at "rd"
      refine ⟨t, rfl, ?_⟩
      have nor : Tm.partI t (k :: p) = none → ∀ c, mg "NoPlace" = some c → dropE E0 c G := fun z c hc => de (hno z c hc)
      cases t with
      | bl n =>
        walk_at "rd"
        exact iteT (nor rfl)
      | fn f ts =>
        rw [Tm.size] at hs
        rw [Tm.partI] at nor hyes
        walk_at "rd"
        refine iteF ?_
        by_cases h1 : 1 ≤ k
        · rw [decide_eq_true h1]
          walk_at "rd"
          rw [Tm.avL_length]
          by_cases h2 : k < (ts.length : Int) + 1
          · rw [decide_eq_true (by push_cast; omega)]
            walk_at "rd"
            rw [if_pos ⟨h1, h2⟩] at nor hyes
            obtain ⟨j, rfl⟩ : ∃ j : Nat, k = ((j + 1 : Nat) : Int) := ⟨k.toNat - 1, by omega⟩
            rw [show ((j + 1 : Nat) : Int).toNat - 1 = j by omega] at nor hyes
            have hi : j < ts.length := by omega
            have ht : ts[j]? = some ts[j] := List.getElem?_eq_getElem hi
            generalize ts[j] = t at ht
            rw [ht] at nor hyes
            simp only at nor hyes
            rw [Tm.putI, show ((j + 1 : Nat) : Int).toNat - 1 = j by omega, ht] at hyes
            simp only at hyes
            have hm := List.mem_of_getElem? ht
            have h3 := Tm.size_le_of_mem hm
            have hln := Tm.length_le_sizeL ts
            rw [List.length_cons] at hd
            refine iteF ⟨t.av, ?_, ?_⟩
            · exact atI_some (n := j + 1) (by rw [List.getElem?_cons_succ, Tm.avL_map, List.getElem?_map, ht]; rfl) rfl
            rw [cutA_1]
            refine ⟨t, p, v, rfl, rfl, rfl, by omega, by omega, fun z c hc => nor z c hc, fun hz => ?_⟩
            have hyes := hyes hz
            walk_at "rd"
            rw [cutA_to (AV.str f :: Tm.avL ts) (j + 1)]
            refine ⟨szl, ?_, ?_⟩
            · rw [List.length_take]; exact big6 (by show _ + 1 ≤ _; have := Nat.min_le_right (j + 1) (AV.str f :: Tm.avL ts).length; rw [List.length_cons, Tm.avL_length] at this; rw [List.length_cons, Tm.avL_length]; omega)
            rw [cutA_fromK (k := ((j + 1 : Nat) : Int) + 1) (j + 2) (by omega)]
            refine ⟨?_, ?_⟩
            · rw [List.length_append, List.length_take, List.length_drop, List.length_cons, Tm.avL_length]; exact big6 (by show _ + 1 + _ ≤ _; omega)
            · have e : AV.tup ((AV.str f :: Tm.avL ts).take (j + 1) ++ [(Tm.putI t p v).av] ++ (AV.str f :: Tm.avL ts).drop (j + 2)) = (Tm.fn f (ts.set j (Tm.putI t p v))).av := by
                rw [av_fn, List.take_succ_cons, List.drop_succ_cons, Tm.avL_map, Tm.avL_map, List.map_set, List.set_eq_take_append_cons_drop, if_pos (by rw [List.length_map]; exact hi)]
                simp
              rw [e]
              exact dq hyes
          · rw [decide_eq_false (by push_cast; omega)]
            walk_at "rd"
            rw [if_neg (fun z => h2 z.2)] at nor
            exact iteT (nor rfl)
        · rw [decide_eq_false h1]
          walk_at "rd"
          rw [if_neg (fun z => h1 z.1)] at nor
          exact iteT (nor rfl)
theorem ok_part_atN (T : Txt K mg) : DefN P w K mg base 2 "part_at" (sp_part_at mg) := by
  have c_is_blank := ok_is_blank (P := P) (w := w) (base := base) T
  refine T.d_part_at.nok2 sc_part_at rfl (fun f cdv A outer s H E W tk pw hr x1 x2 G Q E0 h => ?_)
  obtain ⟨t, p, rfl, rfl, hno, hyes⟩ := h
  refine ⟨_, (as_cons (as_forT pw rfl (av 1) (ag_name (i := 2) sc_part_at.nd rfl (Or.inl rfl)) (as_cons (as_if (at_w (aw_or (at_truth (ae_callQ c_is_blank (hr.mono (by first | decide | omega)) (aa_cons (av 0) aa_nil))) (aw_or1 (at_not (at_chain op_le (lf_i fun _ _ _ => .bl _) op_lt (lf_i fun _ _ _ => .bl _) ae_int (av 2) (ae_len T.m_len (aa_cons (av 0) aa_nil))))))) (as_one (as_raiseN rfl tk T.x_NoPlace)) as_nil)
    (as_one (as_set (i := 0) sc_part_at.nd rfl (Or.inl rfl) (ae_ix (av 0) (av 2))))))
    (as_one (as_ret (av 0)))), ?_⟩
  unfold plI
  walk_at "rd"
  refine ⟨fun i ρ G' => G' = G ∧ ∃ u o, ρ = [some (Tm.av u), some (.tup (p.map .int)), o] ∧ Tm.partI u (p.drop i) = Tm.partI t p, ⟨rfl, _, _, rfl, rfl⟩, fun _ _ _ _ => trivial, ?_, ?_⟩
  · rintro i x ρ G' hx ⟨rfl, u, o, rfl, hp⟩
    obtain ⟨k, hk, rfl⟩ := map_get hx
    rw [drop_cons hk] at hp
    walk_at "rd"
    refine ⟨u, rfl, ?_⟩
    have nor : Tm.partI u (k :: p.drop (i + 1)) = none → ∀ c, mg "NoPlace" = some c → dropE E0 c G' := fun z c hc => de (hno (by rw [← hp, z]) c hc)
    cases u with
    | bl n =>
      walk_at "rd"
      exact iteT (nor rfl)
    | fn f ts =>
      rw [Tm.partI] at nor hp
      walk_at "rd"
      refine iteF ?_
      by_cases h1 : 1 ≤ k
      · rw [decide_eq_true h1]
        walk_at "rd"
        rw [Tm.avL_length]
        by_cases h2 : k < (ts.length : Int) + 1
        · rw [decide_eq_true (by push_cast; omega)]
          walk_at "rd"
          rw [if_pos ⟨h1, h2⟩] at hp
          have hi : k.toNat - 1 < ts.length := by omega
          refine iteF ⟨ts[k.toNat - 1].av, ?_, ?_⟩
          · refine atI_some (n := (k.toNat - 1) + 1) ?_ (by omega)
            rw [List.getElem?_cons_succ, Tm.avL_map, List.getElem?_map, List.getElem?_eq_getElem hi]; rfl
          rw [List.getElem?_eq_getElem hi] at hp
          exact ⟨_, _, rfl, hp⟩
        · rw [decide_eq_false (by push_cast; omega)]
          walk_at "rd"
          rw [if_neg (fun z => h2 z.2)] at nor
          exact iteT (nor rfl)
      · rw [decide_eq_false h1]
        walk_at "rd"
        rw [if_neg (fun z => h1 z.1)] at nor
        exact iteT (nor rfl)
  · rintro ρ G' ⟨rfl, u, o, rfl, hp⟩
    rw [List.length_map, List.drop_length, Tm.partI_nil] at hp
    walk_at "rd"
    exact dq (hyes u hp.symm)
abbrev sp__law_refused : ASp := sp2 fun x y G Q _ => ∃ (t : Tm) (p : List Int), x = t.av ∧ y = plI p ∧ p.length < 190 ∧ t.size ≤ 100000 ∧ Tm.partI t p = none ∧ Q (.bl true) G
theorem ok__law_refused (T : Txt K mg) : DefOk P w K mg base 200 "_law_refused" sp__law_refused := by
  have c_part_at := ok_part_atN (P := P) (w := w) (base := base) T
  have c_put_at := ok_put_atH (P := P) (w := w) (base := base) T 190
  refine T.d__law_refused.ok2 sc__law_refused rfl (fun f cdv A outer s H E W tk pw hr x1 x2 G Q E0 h => ?_)
  obtain ⟨t, p, rfl, rfl, hp, ht, hn, h⟩ := h
  refine ⟨_, (as_cons (as_tryE (i := 2) T.x_WoodError rfl rfl sc__law_refused.nd rfl rfl (fun W' pn xe tk pw => (as_one (as_expr (ae_callN c_part_at (hr.mono (by first | decide | omega)) tk (aa_cons (av 0) (aa_cons (av 1) aa_nil)))))) (fun a oe cls pn hot hz hf => (as_cons (as_if (at_truth (ae_isE (X := (bX P w K mg base N__law_refused "_law_refused" s__law_refused f cdv A outer s H E)) hz hf T.m_isinstance (aa_cons (av 2) (aa_cons (ae_tup (aa_cons (ae_cls (X := ((bX P w K mg base N__law_refused "_law_refused" s__law_refused f cdv A outer s H E)).suite a ((a, oe) :: pn)) (mg := mg) (x := "BadOrder") T.x_BadOrder) (aa_cons (ae_cls (X := ((bX P w K mg base N__law_refused "_law_refused" s__law_refused f cdv A outer s H E)).suite a ((a, oe) :: pn)) (mg := mg) (x := "BadText") T.x_BadText) (aa_cons (ae_cls (X := ((bX P w K mg base N__law_refused "_law_refused" s__law_refused f cdv A outer s H E)).suite a ((a, oe) :: pn)) (mg := mg) (x := "NoTerm") T.x_NoTerm) (aa_cons (ae_cls (X := ((bX P w K mg base N__law_refused "_law_refused" s__law_refused f cdv A outer s H E)).suite a ((a, oe) :: pn)) (mg := mg) (x := "TooHeavy") T.x_TooHeavy) (aa_cons (ae_cls (X := ((bX P w K mg base N__law_refused "_law_refused" s__law_refused f cdv A outer s H E)).suite a ((a, oe) :: pn)) (mg := mg) (x := "TooLong") T.x_TooLong) aa_nil)))))) aa_nil)))) (as_one (as_ret ae_bl)) as_nil)
    (as_cons (as_if (at_w (aw_or (at_not (at_truth (ae_isE (X := (bX P w K mg base N__law_refused "_law_refused" s__law_refused f cdv A outer s H E)) hz hf T.m_isinstance (aa_cons (av 2) (aa_cons (ae_cls (X := ((bX P w K mg base N__law_refused "_law_refused" s__law_refused f cdv A outer s H E)).suite a ((a, oe) :: pn)) (mg := mg) (x := "NoPlace") T.x_NoPlace) aa_nil))))) (aw_or1 (at_not (at_truth (ae_isE (X := (bX P w K mg base N__law_refused "_law_refused" s__law_refused f cdv A outer s H E)) hz hf T.m_isinstance (aa_cons (av 2) (aa_cons (ae_ty T.m_ValueError bt_ValueError) aa_nil)))))))) (as_one (as_ret ae_bl)) as_nil)
    (as_one (as_tryC (X := ((bX P w K mg base N__law_refused "_law_refused" s__law_refused f cdv A outer s H E)).suite a ((a, oe) :: pn)) (K := K) (mg := mg) T.x_NoPlace rfl rfl (fun W' pn' xe hq tk => (as_one (as_expr (ae_callH c_put_at ((room_hot (pn := (a, oe) :: pn) hr).mono (by decide : 195 ≤ 199)) (hot_tr hot hq) tk (aa_cons (av 0) (aa_cons (av 1) (aa_cons ae_int aa_nil))))))) (fun a pn => (as_one (as_ret ae_bl)))))))))
    (as_one (as_ret ae_bl))), ?_⟩
  walk_at "rd"
  refine ⟨t, p, rfl, rfl, fun _ c hc D' hD => ⟨T.ct_NoPlace_WoodError.ex c D' hc hD |>.trans rfl, fun a ha => ?_⟩, fun u hu => by rw [hn] at hu; cases hu⟩
  obtain ⟨D, hDl, _⟩ := T.x_NoPlace.ex
  rw [hDl] at hc
  cases hc
  walk_at "rd"
  intro C0 h0 C1 h1 C2 h2 C3 h3 C4 h4
  refine ⟨szl, rfl, D, false, rfl, T.i_NoPlace D hDl, [C0, C1, C2, C3, C4], rfl, ?_, ?_⟩
  · exact kitAny_cons (T.kt_NoPlace_BadOrder D C0 hDl h0) (fun _ => kitAny_cons (T.kt_NoPlace_BadText D C1 hDl h1) (fun _ => kitAny_cons (T.kt_NoPlace_NoTerm D C2 hDl h2) (fun _ => kitAny_cons (T.kt_NoPlace_TooHeavy D C3 hDl h3) (fun _ => kitAny_cons (T.kt_NoPlace_TooLong D C4 hDl h4) (fun _ => kitAny_nil) (fun z => by cases z)) (fun z => by cases z)) (fun z => by cases z)) (fun z => by cases z)) (fun z => by cases z)
  walk_at "rd"
  intro C hC
  refine ⟨rfl, D, true, rfl, T.i_NoPlace D hDl, T.kt_NoPlace_NoPlace D C hDl hC, ?_⟩
  walk_at "rd"
  refine ⟨rfl, D, true, rfl, T.i_NoPlace D hDl, T.kt_NoPlace_ValueError D hDl, ?_⟩
  walk_at "rd"
  refine ⟨t, p, .bl 0, rfl, rfl, rfl, hp, ht, fun _ c hc D' hD => ⟨T.ct_NoPlace_NoPlace.ex c D' hc hD, ?_⟩, fun z => by rw [hn] at z; cases z⟩
  exact dq h
-- law
abbrev sp_law : ASp := sp1 fun x G Q _ => ∃ ns, x = .ro ns ∧ ∀ G', Q (.bl true) G'
theorem ok_law (T : Txt K mg) : DefOk P w K mg base 220 "law" sp_law := by
  have c__law_cell := ok__law_cell (P := P) (w := w) (base := base) T
  have c__law_dice := ok__law_dice (P := P) (w := w) (base := base) T
  have c__law_signs := ok__law_signs (P := P) (w := w) (base := base) T
  have c__law_free := ok__law_free (P := P) (w := w) (base := base) T
  have c__law_term := ok__law_term (P := P) (w := w) (base := base) T 3
  have c__law_tall := ok__law_tall (P := P) (w := w) (base := base) T
  have c__law_places := ok__law_places (P := P) (w := w) (base := base) T 160
  have c_places := ok_places (P := P) (w := w) (base := base) T 160
  have c__law_part := ok__law_part (P := P) (w := w) (base := base) T
  have c_part_at := ok_part_at (P := P) (w := w) (base := base) T
  have c_put_at := ok_put_at (P := P) (w := w) (base := base) T 180
  have c__law_put := ok__law_put (P := P) (w := w) (base := base) T 160
  have c__law_same := ok__law_same (P := P) (w := w) (base := base) T 170
  have c__law_refused := ok__law_refused (P := P) (w := w) (base := base) T
  refine T.d_law.ok1 sc_law rfl (fun f cdv A outer s H E W tk pw hr x1 G Q E0 h => ?_)
  obtain ⟨ns, rfl, h⟩ := h
  have hz1 : szB 4 1 = 5 := by decide
  have hz2 : szB 4 2 = 21 := by decide
  -- what it has not is refused
  have tail2 : ∃ u, ASs (bX P w K mg base N_law "law" s_law f cdv A outer s H E) W ((defBody s_law).drop 14) u ∧ ∀ G1 (pS pf pd pn : Addr) (t v w2 y : Tm) (p : List Nat) (b : Int), t.depth < 153 → t.size ≤ 1000 → v.depth ≤ 2 → v.size ≤ 5 → Tm.part t p = some y → Tm.part w2 p = some v → OddK y b →
      u { nx := fun _ G' => dropQ Q .non G', rt := dropQ Q, ex := fun c _ G' => dropE E0 c G' } [some (.ro ns), some (.ref pS), some (.ref pf), some t.av, some v.av, some (.ref pd), some (.ref pn), some (plA p), some y.av, some w2.av, some (.int b), none, none] G1 := by
    refine ⟨_, (as_cons (as_set (i := 11) sc_law.nd rfl (Or.inl rfl) (ae_add (av 7) (ae_tup (aa_cons (ae_ix (ae_lst (aa_cons ae_int (aa_cons (av 10) (aa_cons (ae_neg ae_int) aa_nil)))) (ae_mod (ae_abs T.m_abs (aa_cons (ae_call c__law_cell (hr.mono (by first | decide | omega)) tk (aa_cons (av 0) (aa_cons ae_int aa_nil))) aa_nil)) ae_int)) aa_nil))))
    (as_one (as_ret (ae_and (ae_call c__law_same (hr.mono (by first | decide | omega)) tk (aa_cons (ae_call c_part_at (hr.mono (by first | decide | omega)) tk (aa_cons (av 9) (aa_cons (av 7) aa_nil))) (aa_cons (av 4) aa_nil))) (ae_and (ae_call c__law_refused (hr.mono (by first | decide | omega)) tk (aa_cons (av 3) (aa_cons (av 11) aa_nil))) (ae_one (ae_call c__law_refused (hr.mono (by first | decide | omega)) tk (aa_cons (av 3) (aa_cons (ae_add (av 11) (ae_tup (aa_cons ae_int aa_nil))) aa_nil))))))))), fun G1 pS pf pd pn t v w2 y p b ht hs hv hvs hy hw hb => ?_⟩
    have b5 := Tm.place_len (part_place hy)
    walk_at "rd"
    refine ⟨szl (by decide), fun pc G2 n2 => ?_⟩
    refine ⟨ns, 7, rfl, rfl, by decide, fun x7 => ?_⟩
    walk_at "rd"
    have m1 := Int.emod_nonneg (if x7 < 0 then -x7 else x7) (show (3 : Int) ≠ 0 by decide)
    have m2 := Int.emod_lt_of_pos (if x7 < 0 then -x7 else x7) (show (0 : Int) < 3 by decide)
    generalize (if x7 < 0 then -x7 else x7) % 3 = r at m1 m2
    obtain ⟨c, hc, ho⟩ : ∃ c, atI [AV.int 0, AV.int b, AV.int (-1)] r = some (.int c) ∧ OddK y c := by
      rcases (by omega : r = 0 ∨ r = 1 ∨ r = 2) with rfl | rfl | rfl
      · exact ⟨0, rfl, odd_0 y⟩
      · exact ⟨b, rfl, hb⟩
      · exact ⟨-1, rfl, odd_m y⟩
    have hn1 := odd_none hy ho []
    have hn2 := odd_none hy ho [1]
    have hwI : Tm.partI w2 (p.map fun k : Nat => (k : Int)) = some v := by rw [Tm.partI_nat]; exact hw
    refine ⟨by decide, _, n2.at_, _, hc, szl (by decide), ?_⟩
    unfold plA
    walk_at "rd"
    refine ⟨?_, ?_⟩
    · rw [List.length_map]
      exact szl (by omega)
    rw [odd_av]
    refine ⟨w2, p.map fun k : Nat => (k : Int), rfl, (plI_nat p).symm, (fun hn => by rw [hwI] at hn; cases hn), fun y' hy' => ?_⟩
    rw [hwI] at hy'
    cases hy'
    walk_at "rd"
    refine ⟨v, v, rfl, rfl, by omega, szl (by omega), fun b hb => ?_⟩
    rw [hb.mpr rfl]
    walk_at "rd"
    refine ⟨t, _, rfl, rfl, ?_, by omega, hn1, ?_⟩
    · rw [List.length_append, List.length_map]
      show _ + 1 < _
      omega
    walk_at "rd"
    refine ⟨szl (by decide), ?_⟩
    unfold plI
    walk_at "rd"
    refine ⟨?_, ?_⟩
    · rw [List.length_append, List.length_map]
      exact szl (by show _ + 1 + 1 ≤ _; omega)
    refine ⟨t, (p.map fun k : Nat => (k : Int)) ++ [c, 1], rfl, ?_, ?_, by omega, hn2, ?_⟩
    · unfold plI
      simp
    · rw [List.length_append, List.length_map]
      show _ + 2 < _
      omega
    · exact dq (h _)
  obtain ⟨u2, hu2, tail2⟩ := tail2
  -- a place of it, what stands there, the other one put there, places that it has not
  have tail : ∃ u, ASs (bX P w K mg base N_law "law" s_law f cdv A outer s H E) W ((defBody s_law).drop 8) u ∧ ∀ G1 (pS pf pd pn : Addr) (t v : Tm) o, t.depth < 153 → t.size ≤ 1000 → v.depth ≤ 2 → v.size ≤ 5 → G1 pd = some (.lst (t.places.map plA)) →
      u { nx := fun _ G' => dropQ Q .non G', rt := dropQ Q, ex := fun c _ G' => dropE E0 c G' } [some (.ro ns), some (.ref pS), some (.ref pf), some t.av, some v.av, some (.ref pd), some (.ref pn), o, none, none, none, none, none] G1 := by
    refine ⟨_, as_cons (as_set (i := 7) sc_law.nd rfl (Or.inl rfl) (ae_ix (av 5) (ae_mod (ae_abs T.m_abs (aa_cons (ae_call c__law_cell (hr.mono (by first | decide | omega)) tk (aa_cons (av 0) (aa_cons ae_int aa_nil))) aa_nil)) (ae_len T.m_len (aa_cons (av 5) aa_nil))))) (as_cons (as_set (i := 8) sc_law.nd rfl (Or.inl rfl) (ae_call c__law_part (hr.mono (by first | decide | omega)) tk (aa_cons (av 3) (aa_cons (av 7) aa_nil)))) (as_cons (as_set (i := 9) sc_law.nd rfl (Or.inl rfl) (ae_call c_put_at (hr.mono (by first | decide | omega)) tk (aa_cons (av 3) (aa_cons (av 7) (aa_cons (av 4) aa_nil))))) (as_cons (as_if (at_w (aw_or (at_not (at_truth (ae_call c__law_same (hr.mono (by first | decide | omega)) tk (aa_cons (ae_call c_part_at (hr.mono (by first | decide | omega)) tk (aa_cons (av 3) (aa_cons (av 7) aa_nil))) (aa_cons (av 8) aa_nil))))) (aw_or1 (at_not (at_truth (ae_call c__law_same (hr.mono (by first | decide | omega)) tk (aa_cons (av 9) (aa_cons (ae_call c__law_put (hr.mono (by first | decide | omega)) tk (aa_cons (av 3) (aa_cons (av 7) (aa_cons (av 4) aa_nil)))) aa_nil)))))))) (as_one (as_ret ae_bl)) as_nil) (as_cons (as_set (i := 10) sc_law.nd rfl (Or.inl rfl) ae_int) (as_cons (as_if (at_not (at_truth (ae_isi T.m_isinstance (aa_cons (av 8) (aa_cons (ae_ty T.m_int bt_int) aa_nil))))) (as_one (as_set (i := 10) sc_law.nd rfl (Or.inl rfl) (ae_add (ae_len T.m_len (aa_cons (av 8) aa_nil)) (ae_mod (ae_abs T.m_abs (aa_cons (ae_call c__law_cell (hr.mono (by first | decide | omega)) tk (aa_cons (av 0) (aa_cons ae_int aa_nil))) aa_nil)) ae_int)))) as_nil) hu2))))), fun G1 pS pf pd pn t v o ht hs hv hvs ed => ?_⟩
    walk_at "rd"
    refine ⟨ns, 5, rfl, rfl, by decide, fun x5 => ?_⟩
    walk_at "rd"
    refine .inl ⟨_, ed, ?_⟩
    rw [List.length_map, Tm.places_len]
    have hz0 := Tm.size_pos t
    have m1 := Int.emod_nonneg (if x5 < 0 then -x5 else x5) (show ((t.size : Nat) : Int) ≠ 0 by omega)
    have m2 := Int.emod_lt_of_pos (if x5 < 0 then -x5 else x5) (show (0 : Int) < ((t.size : Nat) : Int) by omega)
    generalize (if x5 < 0 then -x5 else x5) % ((t.size : Nat) : Int) = r at m1 m2
    have hk : r.toNat < t.places.length := by rw [Tm.places_len]; omega
    have hpm := List.getElem_mem hk
    have hat : atI (t.places.map plA) r = some (plA t.places[r.toNat]) := atI_some (n := r.toNat) (by rw [List.getElem?_map, List.getElem?_eq_getElem hk]; rfl) (by omega)
    generalize t.places[r.toNat] = p at hpm hat
    obtain ⟨y, hy⟩ := Option.isSome_iff_exists.mp (Tm.mem_places.mp hpm)
    have hyI : Tm.partI t (p.map fun k : Nat => (k : Int)) = some y := by rw [Tm.partI_nat]; exact hy
    obtain ⟨b1, b2, -, b4⟩ := partI_bd hyI
    have b5 : p.length ≤ t.depth := by rw [List.length_map] at b4; exact b4
    refine ⟨by omega, _, ed, _, hat, ?_⟩
    refine ⟨t, p.map fun k : Nat => (k : Int), rfl, (plI_nat p).symm, (fun hn => by rw [hyI] at hn; cases hn), fun y' hy' => ?_⟩
    rw [hyI] at hy'
    cases hy'
    walk_at "rd"
    refine ⟨t, p.map fun k : Nat => (k : Int), v, rfl, (plI_nat p).symm, rfl, by omega, by omega, (fun hn => by rw [hyI] at hn; cases hn), fun _ => ?_⟩
    rw [Tm.putI_nat]
    walk_at "rd"
    refine ⟨t, p.map fun k : Nat => (k : Int), rfl, (plI_nat p).symm, (fun hn => by rw [hyI] at hn; cases hn), fun y' hy' => ?_⟩
    rw [hyI] at hy'
    cases hy'
    walk_at "rd"
    refine ⟨y, y, rfl, rfl, by omega, szl (by omega), fun b hb => ?_⟩
    rw [hb.mpr rfl]
    walk_at "rd"
    refine ⟨t, p, v, rfl, rfl, rfl, Tm.mem_places.mp hpm, by omega, by omega, ?_⟩
    have hpd := put_depth v p t
    have hps := put_size t v p
    have hpp := part_put p v hy
    generalize Tm.put t p v = w2 at hpd hps hpp
    refine ⟨w2, w2, rfl, rfl, by omega, big6 (by omega), fun b hb => ?_⟩
    rw [hb.mpr rfl]
    walk_at "rd"
    simp only [Bool.not_true, Bool.false_eq_true, if_false]
    cases y with
    | bl n =>
      walk_at "rd"
      refine ⟨by decide +kernel, ?_⟩
      rw [show isiB "int" "int" = true from by decide +kernel]
      simp only [Bool.not_true, Bool.false_eq_true, if_false]
      exact tail2 _ pS pf pd pn t v w2 (.bl n) p 1 ht hs hv hvs hy hpp (odd_bl _ _)
    | fn f ts =>
      walk_at "rd"
      refine ⟨by decide +kernel, ?_⟩
      rw [show isiB "tuple" "int" = false from by decide +kernel]
      simp only [Bool.not_false, if_true]
      walk_at "rd"
      refine ⟨ns, 6, rfl, rfl, by decide, fun x6 => ?_⟩
      walk_at "rd"
      rw [Tm.avL_length]
      have m3 := Int.emod_nonneg (if x6 < 0 then -x6 else x6) (show (3 : Int) ≠ 0 by decide)
      generalize (if x6 < 0 then -x6 else x6) % 3 = b6 at m3
      have h2 := tail2 G1 pS pf pd pn t v w2 (.fn f ts) p (((ts.length + 1 : Nat) : Int) + b6) ht hs hv hvs hy hpp (odd_fn (by omega))
      rw [av_fn] at h2
      exact ⟨by decide, h2⟩
  obtain ⟨u, hu, tail⟩ := tail
  refine ⟨_, as_cons (as_set (i := 1) sc_law.nd rfl (Or.inl rfl) (ae_call c__law_signs (hr.mono (by first | decide | omega)) tk (aa_cons (ae_call c__law_dice (hr.mono (by first | decide | omega)) tk (aa_cons (av 0) (aa_cons ae_int aa_nil))) aa_nil))) (as_cons (as_set (i := 2) sc_law.nd rfl (Or.inl rfl) (ae_call c__law_free (hr.mono (by first | decide | omega)) tk (aa_cons (ae_call c__law_dice (hr.mono (by first | decide | omega)) tk (aa_cons (av 0) (aa_cons ae_int aa_nil))) aa_nil))) (as_cons (as_set (i := 3) sc_law.nd rfl (Or.inl rfl) (ae_call c__law_tall (hr.mono (by first | decide | omega)) tk (aa_cons (ae_call c__law_dice (hr.mono (by first | decide | omega)) tk (aa_cons (av 0) (aa_cons ae_int aa_nil))) (aa_cons (ae_call c__law_term (hr.mono (by first | decide | omega)) tk (aa_cons (ae_call c__law_dice (hr.mono (by first | decide | omega)) tk (aa_cons (av 0) (aa_cons ae_int aa_nil))) (aa_cons (av 1) (aa_cons ae_int (aa_cons (av 2) aa_nil))))) aa_nil)))) (as_cons (as_set (i := 4) sc_law.nd rfl (Or.inl rfl) (ae_call c__law_term (hr.mono (by first | decide | omega)) tk (aa_cons (ae_call c__law_dice (hr.mono (by first | decide | omega)) tk (aa_cons (av 0) (aa_cons ae_int aa_nil))) (aa_cons (av 1) (aa_cons ae_int (aa_cons (av 2) aa_nil)))))) (as_cons (as_set (i := 5) sc_law.nd rfl (Or.inl rfl) (ae_call c__law_places (hr.mono (by first | decide | omega)) tk (aa_cons (av 3) aa_nil))) (as_cons (as_set (i := 6) sc_law.nd rfl (Or.inl rfl) (ae_call c_places (hr.mono (by first | decide | omega)) tk (aa_cons (av 3) aa_nil))) (as_cons (as_if (at_w (aw_or (at_not (at_truth (ae_isi T.m_isinstance (aa_cons (av 6) (aa_cons (ae_ty T.m_list bt_list) aa_nil))))) (aw_or1 (at_ne hr (av 6) (av 5))))) (as_one (as_ret ae_bl)) as_nil) (as_cons (as_forL pw rfl (av 6) (ag_name (i := 7) sc_law.nd rfl (Or.inl rfl)) (as_one (as_if (at_w (aw_or (at_not (at_truth (ae_isi T.m_isinstance (aa_cons (av 7) (aa_cons (ae_ty T.m_tuple bt_tuple) aa_nil))))) (aw_or1 (at_ne hr (ae_lcT (own := [("_law_k", 12)]) rfl sc_law.nd (av 7) (blkOk_by (N := N_law) (sc := defScope s_law) (by decide +kernel)) (gb_name 12) (fun _ _ _ _ _ => (pg_name (i := 12) sc_law.nd rfl (by first | exact Or.inl rfl | exact Or.inr rfl))) (fun _ _ _ _ _ => (ats_one (at_w (aw_or (at_not (at_truth (ae_isi T.m_isinstance (aa_cons (av 12) (aa_cons (ae_ty T.m_int bt_int) aa_nil))))) (aw_or1 (at_truth (ae_isi T.m_isinstance (aa_cons (av 12) (aa_cons (ae_ty T.m_bool bt_bool) aa_nil))))))))) (fun _ _ _ _ _ => ae_int)) (ae_lst aa_nil))))) (as_one (as_ret ae_bl)) as_nil))) hu))))))), ?_⟩
  walk_at "rd"
  refine ⟨ns, 0, rfl, rfl, by decide, fun p0 D0 G0 i0 n0 => ⟨ns, p0, rfl, ⟨D0, n0.at_, i0⟩, fun pS S G1 okS hS4 d1 nS eS => ?_⟩⟩
  walk_at "rd"
  refine ⟨ns, 1, rfl, rfl, by decide, fun p2 D2 G2 i2 n2 => ⟨ns, p2, rfl, ⟨D2, n2.at_, i2⟩, fun pf fr G3 hfr d3 nf ef => ?_⟩⟩
  have hfr4 := (menuF_ok hfr).1
  walk_at "rd"
  have eS3 : G3 pS = some (.lst (S.map Sg.av)) := d3.keep _ _ (n2.ne eS) (n2.keep eS)
  refine ⟨ns, 3, rfl, rfl, by decide, fun p4 D4 G4 i4 n4 => ?_⟩
  refine ⟨ns, 2, rfl, rfl, by decide, fun p5 D5 G5 i5 n5 => ?_⟩
  refine ⟨4, ns, p5, pS, S, 2, pf, fr, rfl, rfl, rfl, rfl, by decide, by decide, ⟨D5, n5.at_, i5⟩, n5.ne (n4.keep eS3), n5.ne (n4.keep ef), n5.keep (n4.keep eS3), okS, n5.keep (n4.keep ef), szl' hfr4, fun t G6 t1 t2 t3 d6 => ?_⟩
  have eS6 := d6.keep _ _ (n5.ne (n4.keep eS3)) (n5.keep (n4.keep eS3))
  have ef6 := d6.keep _ _ (n5.ne (n4.keep ef)) (n5.keep (n4.keep ef))
  have a4S : pS ≠ p4 := n4.ne eS3
  have a4f : pf ≠ p4 := n4.ne ef
  refine ⟨ns, p4, t, rfl, rfl, ⟨D4, d6.keep _ _ (n5.ne n4.at_) (n5.keep n4.at_), i4⟩, fun k G7 hk d7 => ?_⟩
  have eS7 := d7.keep _ _ a4S eS6
  have ef7 := d7.keep _ _ a4f ef6
  have htd : (Tm.upN "up" k t).depth < 153 := by rw [Tm.upN_depth]; omega
  have hts : (Tm.upN "up" k t).size ≤ 1000 := by rw [Tm.upN_size]; omega
  generalize Tm.upN "up" k t = t at *
  walk_at "rd"
  refine ⟨ns, 4, rfl, rfl, by decide, fun p8 D8 G8 i8 n8 => ?_⟩
  refine ⟨4, ns, p8, pS, S, 1, pf, fr, rfl, rfl, rfl, rfl, by decide, by decide, ⟨D8, n8.at_, i8⟩, n8.ne eS7, n8.ne ef7, n8.keep eS7, okS, n8.keep ef7, szl' hfr4, fun v G9 v1 v2 v3 d9 => ?_⟩
  walk_at "rd"
  refine ⟨t, rfl, by omega, by omega, fun pd G10 n10 => ?_⟩
  walk_at "rd"
  refine ⟨t, rfl, by omega, by omega, fun pn G11 n11 => ?_⟩
  walk_at "rd"
  have ed := n11.keep n10.at_
  refine .inl ⟨_, n11.at_, by decide +kernel, ?_⟩
  rw [show isiB "list" "list" = true from by decide +kernel]
  simp only [Bool.not_true, Bool.false_eq_true, if_false]
  refine fEq_row (f := plA) (g := plD) (xs := t.places) (ys := t.places) (fun _ _ => eqv_pl) n11.at_ ed (fun _ => pd_pl _) (fun _ _ => can_pl _) (fun x _ => by have := depth_pl x; omega) fun c hc => ?_
  rw [hc.mpr rfl]
  walk_at "rd"
  refine ⟨_, n11.at_, fun i ρ G' => (∃ o, ρ = [some (.ro ns), some (.ref pS), some (.ref pf), some t.av, some v.av, some (.ref pd), some (.ref pn), o, none, none, none, none, none]) ∧ G' pn = some (.lst (t.places.map plA)) ∧ G' pd = some (.lst (t.places.map plA)), ⟨⟨_, rfl⟩, n11.at_, ed⟩, fun i ρ G' h => h.2.1, ?_, ?_⟩
  · rintro i x ρ G' hx ⟨⟨o, rfl⟩, e1, e2⟩
    obtain ⟨q, hq, rfl⟩ := map_get hx
    have hqd := Tm.place_len (List.mem_of_getElem? hq)
    unfold plA
    walk_at "rd"
    refine ⟨by decide +kernel, ?_⟩
    rw [show isiB "tuple" "tuple" = true from by decide +kernel]
    simp only [Bool.not_true, Bool.false_eq_true, if_false]
    refine lcI_filterS (f := fun k : Nat => AV.int (k : Nat)) (zs := q) (fun _ => false) (fun _ => .int 1) (szl (by omega)) (fun _ _ => trivial) (fun _ _ => bd_name) ?_ (fun _ _ h => by cases h) fun p' G1 G2 s1 n1 => ?_
    · rintro z hz G1 s1 _ rfl Qb hQ
      walk_at "rd"
      refine ⟨by decide +kernel, ?_⟩
      rw [show isiB "int" "int" = true from by decide +kernel, show isiB "int" "bool" = false from by decide +kernel]
      simp only [Bool.not_true, Bool.false_eq_true, if_false]
      exact ⟨by decide +kernel, hQ _ .refl⟩
    · walk_at "rd"
      refine ⟨szl (Nat.zero_le _), fun p3 G3 n3 => ?_⟩
      have n1' : G2 p' = some (.lst (([] : List (List Nat)).map plA)) := by
        have := n1.at_
        rw [List.filter_eq_nil_iff.mpr (fun _ _ h => by cases h)] at this
        exact this
      refine fEq_row (f := plA) (g := plD) (xs := []) (ys := []) (fun _ _ => eqv_pl) (n3.keep n1') n3.at_ (fun _ => pd_pl _) (fun _ _ => can_pl _) (fun _ h => by cases h) fun c hc => ?_
      rw [hc.mpr rfl]
      walk_at "rd"
      exact ⟨⟨_, rfl⟩, n3.keep (n1.keep (s1 _ _ e1)), n3.keep (n1.keep (s1 _ _ e2))⟩
  · rintro ρ G' ⟨⟨o, rfl⟩, e1, e2⟩
    exact tail G' pS pf pd pn t v o htd hts (by omega) (by omega) e2
end
set_option maxHeartbeats 0 in
theorem law_all {l : PySem.W.OpenLaw} {w : World} {K : PySem.W.Frag} {h : Heap} {mg : Str → Option Value} {fa : Addr} (X : K.In h) (G : h.Ns mainGlobals mg) (hfa : mg "law" = some (.ref fa))
    {f0 : Addr} {od0 an0 : Option Addr} {sl0 : Array (Option Value)} {oc0 kV0 dc0 pm0 cd0 ct0 : Value}
    (a0 : PySem.W.nsIn K mainGlobals "is_blank" = some (some (.ref f0))) (l0 : K.lookup f0 = some ⟨oc0, od0, .func (PySem.W.fnOf "is_blank" "is_blank" (defArgs s_is_blank) (defBody s_is_blank) (defScope s_is_blank) .none kV0 dc0 pm0 an0 cd0 ct0), sl0⟩) (c0 : PySem.W.codeIn K cd0 "is_blank" = true) (k0 : PySem.W.keepIn K (.ref f0) = true)
    {f1 : Addr} {od1 an1 : Option Addr} {sl1 : Array (Option Value)} {oc1 kV1 dc1 pm1 cd1 ct1 : Value}
    (a1 : PySem.W.nsIn K mainGlobals "places" = some (some (.ref f1))) (l1 : K.lookup f1 = some ⟨oc1, od1, .func (PySem.W.fnOf "places" "places" (defArgs s_places) (defBody s_places) (defScope s_places) .none kV1 dc1 pm1 an1 cd1 ct1), sl1⟩) (c1 : PySem.W.codeIn K cd1 "places" = true) (k1 : PySem.W.keepIn K (.ref f1) = true)
    {f2 : Addr} {od2 an2 : Option Addr} {sl2 : Array (Option Value)} {oc2 kV2 dc2 pm2 cd2 ct2 : Value}
    (a2 : PySem.W.nsIn K mainGlobals "part_at" = some (some (.ref f2))) (l2 : K.lookup f2 = some ⟨oc2, od2, .func (PySem.W.fnOf "part_at" "part_at" (defArgs s_part_at) (defBody s_part_at) (defScope s_part_at) .none kV2 dc2 pm2 an2 cd2 ct2), sl2⟩) (c2 : PySem.W.codeIn K cd2 "part_at" = true) (k2 : PySem.W.keepIn K (.ref f2) = true)
    {f3 : Addr} {od3 an3 : Option Addr} {sl3 : Array (Option Value)} {oc3 kV3 dc3 pm3 cd3 ct3 : Value}
    (a3 : PySem.W.nsIn K mainGlobals "put_at" = some (some (.ref f3))) (l3 : K.lookup f3 = some ⟨oc3, od3, .func (PySem.W.fnOf "put_at" "put_at" (defArgs s_put_at) (defBody s_put_at) (defScope s_put_at) .none kV3 dc3 pm3 an3 cd3 ct3), sl3⟩) (c3 : PySem.W.codeIn K cd3 "put_at" = true) (k3 : PySem.W.keepIn K (.ref f3) = true)
    {f4 : Addr} {od4 an4 : Option Addr} {sl4 : Array (Option Value)} {oc4 kV4 dc4 pm4 cd4 ct4 : Value}
    (a4 : PySem.W.nsIn K mainGlobals "_law_cell" = some (some (.ref f4))) (l4 : K.lookup f4 = some ⟨oc4, od4, .func (PySem.W.fnOf "_law_cell" "_law_cell" (defArgs s__law_cell) (defBody s__law_cell) (defScope s__law_cell) .none kV4 dc4 pm4 an4 cd4 ct4), sl4⟩) (c4 : PySem.W.codeIn K cd4 "_law_cell" = true) (k4 : PySem.W.keepIn K (.ref f4) = true)
    {f5 : Addr} {od5 an5 : Option Addr} {sl5 : Array (Option Value)} {oc5 kV5 dc5 pm5 cd5 ct5 : Value}
    (a5 : PySem.W.nsIn K mainGlobals "_law_dice" = some (some (.ref f5))) (l5 : K.lookup f5 = some ⟨oc5, od5, .func (PySem.W.fnOf "_law_dice" "_law_dice" (defArgs s__law_dice) (defBody s__law_dice) (defScope s__law_dice) .none kV5 dc5 pm5 an5 cd5 ct5), sl5⟩) (c5 : PySem.W.codeIn K cd5 "_law_dice" = true) (k5 : PySem.W.keepIn K (.ref f5) = true)
    {f6 : Addr} {od6 an6 : Option Addr} {sl6 : Array (Option Value)} {oc6 kV6 dc6 pm6 cd6 ct6 : Value}
    (a6 : PySem.W.nsIn K mainGlobals "_law_off" = some (some (.ref f6))) (l6 : K.lookup f6 = some ⟨oc6, od6, .func (PySem.W.fnOf "_law_off" "_law_off" (defArgs s__law_off) (defBody s__law_off) (defScope s__law_off) .none kV6 dc6 pm6 an6 cd6 ct6), sl6⟩) (c6 : PySem.W.codeIn K cd6 "_law_off" = true) (k6 : PySem.W.keepIn K (.ref f6) = true)
    {f7 : Addr} {od7 an7 : Option Addr} {sl7 : Array (Option Value)} {oc7 kV7 dc7 pm7 cd7 ct7 : Value}
    (a7 : PySem.W.nsIn K mainGlobals "_law_names" = some (some (.ref f7))) (l7 : K.lookup f7 = some ⟨oc7, od7, .func (PySem.W.fnOf "_law_names" "_law_names" (defArgs s__law_names) (defBody s__law_names) (defScope s__law_names) .none kV7 dc7 pm7 an7 cd7 ct7), sl7⟩) (c7 : PySem.W.codeIn K cd7 "_law_names" = true) (k7 : PySem.W.keepIn K (.ref f7) = true)
    {f8 : Addr} {od8 an8 : Option Addr} {sl8 : Array (Option Value)} {oc8 kV8 dc8 pm8 cd8 ct8 : Value}
    (a8 : PySem.W.nsIn K mainGlobals "_law_signs" = some (some (.ref f8))) (l8 : K.lookup f8 = some ⟨oc8, od8, .func (PySem.W.fnOf "_law_signs" "_law_signs" (defArgs s__law_signs) (defBody s__law_signs) (defScope s__law_signs) .none kV8 dc8 pm8 an8 cd8 ct8), sl8⟩) (c8 : PySem.W.codeIn K cd8 "_law_signs" = true) (k8 : PySem.W.keepIn K (.ref f8) = true)
    {f9 : Addr} {od9 an9 : Option Addr} {sl9 : Array (Option Value)} {oc9 kV9 dc9 pm9 cd9 ct9 : Value}
    (a9 : PySem.W.nsIn K mainGlobals "_law_free" = some (some (.ref f9))) (l9 : K.lookup f9 = some ⟨oc9, od9, .func (PySem.W.fnOf "_law_free" "_law_free" (defArgs s__law_free) (defBody s__law_free) (defScope s__law_free) .none kV9 dc9 pm9 an9 cd9 ct9), sl9⟩) (c9 : PySem.W.codeIn K cd9 "_law_free" = true) (k9 : PySem.W.keepIn K (.ref f9) = true)
    {f10 : Addr} {od10 an10 : Option Addr} {sl10 : Array (Option Value)} {oc10 kV10 dc10 pm10 cd10 ct10 : Value}
    (a10 : PySem.W.nsIn K mainGlobals "_law_term" = some (some (.ref f10))) (l10 : K.lookup f10 = some ⟨oc10, od10, .func (PySem.W.fnOf "_law_term" "_law_term" (defArgs s__law_term) (defBody s__law_term) (defScope s__law_term) .none kV10 dc10 pm10 an10 cd10 ct10), sl10⟩) (c10 : PySem.W.codeIn K cd10 "_law_term" = true) (k10 : PySem.W.keepIn K (.ref f10) = true)
    {f11 : Addr} {od11 an11 : Option Addr} {sl11 : Array (Option Value)} {oc11 kV11 dc11 pm11 cd11 ct11 : Value}
    (a11 : PySem.W.nsIn K mainGlobals "_law_tall" = some (some (.ref f11))) (l11 : K.lookup f11 = some ⟨oc11, od11, .func (PySem.W.fnOf "_law_tall" "_law_tall" (defArgs s__law_tall) (defBody s__law_tall) (defScope s__law_tall) .none kV11 dc11 pm11 an11 cd11 ct11), sl11⟩) (c11 : PySem.W.codeIn K cd11 "_law_tall" = true) (k11 : PySem.W.keepIn K (.ref f11) = true)
    {f12 : Addr} {od12 an12 : Option Addr} {sl12 : Array (Option Value)} {oc12 kV12 dc12 pm12 cd12 ct12 : Value}
    (a12 : PySem.W.nsIn K mainGlobals "_law_places" = some (some (.ref f12))) (l12 : K.lookup f12 = some ⟨oc12, od12, .func (PySem.W.fnOf "_law_places" "_law_places" (defArgs s__law_places) (defBody s__law_places) (defScope s__law_places) .none kV12 dc12 pm12 an12 cd12 ct12), sl12⟩) (c12 : PySem.W.codeIn K cd12 "_law_places" = true) (k12 : PySem.W.keepIn K (.ref f12) = true)
    {f13 : Addr} {od13 an13 : Option Addr} {sl13 : Array (Option Value)} {oc13 kV13 dc13 pm13 cd13 ct13 : Value}
    (a13 : PySem.W.nsIn K mainGlobals "_law_part" = some (some (.ref f13))) (l13 : K.lookup f13 = some ⟨oc13, od13, .func (PySem.W.fnOf "_law_part" "_law_part" (defArgs s__law_part) (defBody s__law_part) (defScope s__law_part) .none kV13 dc13 pm13 an13 cd13 ct13), sl13⟩) (c13 : PySem.W.codeIn K cd13 "_law_part" = true) (k13 : PySem.W.keepIn K (.ref f13) = true)
    {f14 : Addr} {od14 an14 : Option Addr} {sl14 : Array (Option Value)} {oc14 kV14 dc14 pm14 cd14 ct14 : Value}
    (a14 : PySem.W.nsIn K mainGlobals "_law_put" = some (some (.ref f14))) (l14 : K.lookup f14 = some ⟨oc14, od14, .func (PySem.W.fnOf "_law_put" "_law_put" (defArgs s__law_put) (defBody s__law_put) (defScope s__law_put) .none kV14 dc14 pm14 an14 cd14 ct14), sl14⟩) (c14 : PySem.W.codeIn K cd14 "_law_put" = true) (k14 : PySem.W.keepIn K (.ref f14) = true)
    {f15 : Addr} {od15 an15 : Option Addr} {sl15 : Array (Option Value)} {oc15 kV15 dc15 pm15 cd15 ct15 : Value}
    (a15 : PySem.W.nsIn K mainGlobals "_law_same" = some (some (.ref f15))) (l15 : K.lookup f15 = some ⟨oc15, od15, .func (PySem.W.fnOf "_law_same" "_law_same" (defArgs s__law_same) (defBody s__law_same) (defScope s__law_same) .none kV15 dc15 pm15 an15 cd15 ct15), sl15⟩) (c15 : PySem.W.codeIn K cd15 "_law_same" = true) (k15 : PySem.W.keepIn K (.ref f15) = true)
    {f16 : Addr} {od16 an16 : Option Addr} {sl16 : Array (Option Value)} {oc16 kV16 dc16 pm16 cd16 ct16 : Value}
    (a16 : PySem.W.nsIn K mainGlobals "_law_refused" = some (some (.ref f16))) (l16 : K.lookup f16 = some ⟨oc16, od16, .func (PySem.W.fnOf "_law_refused" "_law_refused" (defArgs s__law_refused) (defBody s__law_refused) (defScope s__law_refused) .none kV16 dc16 pm16 an16 cd16 ct16), sl16⟩) (c16 : PySem.W.codeIn K cd16 "_law_refused" = true) (k16 : PySem.W.keepIn K (.ref f16) = true)
    {f17 : Addr} {od17 an17 : Option Addr} {sl17 : Array (Option Value)} {oc17 kV17 dc17 pm17 cd17 ct17 : Value}
    (a17 : PySem.W.nsIn K mainGlobals "law" = some (some (.ref f17))) (l17 : K.lookup f17 = some ⟨oc17, od17, .func (PySem.W.fnOf "law" "law" (defArgs s_law) (defBody s_law) (defScope s_law) .none kV17 dc17 pm17 an17 cd17 ct17), sl17⟩) (c17 : PySem.W.codeIn K cd17 "law" = true) (k17 : PySem.W.keepIn K (.ref f17) = true)
    (z0 : PySem.W.nsIn K mainGlobals "ValueError" = some none)
    (z1 : PySem.W.nsIn K mainGlobals "isinstance" = some none)
    (z2 : PySem.W.nsIn K mainGlobals "int" = some none)
    (z3 : PySem.W.nsIn K mainGlobals "abs" = some none)
    (z4 : PySem.W.nsIn K mainGlobals "range" = some none)
    (z5 : PySem.W.nsIn K mainGlobals "list" = some none)
    (z6 : PySem.W.nsIn K mainGlobals "zip" = some none)
    (z7 : PySem.W.nsIn K mainGlobals "len" = some none)
    (z8 : PySem.W.nsIn K mainGlobals "tuple" = some none)
    (z9 : PySem.W.nsIn K mainGlobals "str" = some none)
    (z10 : PySem.W.nsIn K mainGlobals "max" = some none)
    (z11 : PySem.W.nsIn K mainGlobals "bool" = some none)
    {eWoodError : Addr} (xaWoodError : PySem.W.nsIn K mainGlobals "WoodError" = some (some (.ref eWoodError))) (xqWoodError : PySem.W.excIn K eWoodError excBs "ValueError.__new__" = true) (xkWoodError : PySem.W.keepIn K (.ref eWoodError) = true) (xbWoodError : PySem.W.subIn K (.ref eWoodError) (.type "BaseException") = some true) (xtWoodError : PySem.W.typeIn K (.ref eWoodError) = some (.type "type")) (xiWoodError : PySem.W.isClsIn K eWoodError = true)
    {eBadOrder : Addr} (xaBadOrder : PySem.W.nsIn K mainGlobals "BadOrder" = some (some (.ref eBadOrder))) (xqBadOrder : PySem.W.excIn K eBadOrder excBs "ValueError.__new__" = true) (xkBadOrder : PySem.W.keepIn K (.ref eBadOrder) = true) (xbBadOrder : PySem.W.subIn K (.ref eBadOrder) (.type "BaseException") = some true) (xtBadOrder : PySem.W.typeIn K (.ref eBadOrder) = some (.type "type")) (xiBadOrder : PySem.W.isClsIn K eBadOrder = true)
    {eNoTerm : Addr} (xaNoTerm : PySem.W.nsIn K mainGlobals "NoTerm" = some (some (.ref eNoTerm))) (xqNoTerm : PySem.W.excIn K eNoTerm excBs "ValueError.__new__" = true) (xkNoTerm : PySem.W.keepIn K (.ref eNoTerm) = true) (xbNoTerm : PySem.W.subIn K (.ref eNoTerm) (.type "BaseException") = some true) (xtNoTerm : PySem.W.typeIn K (.ref eNoTerm) = some (.type "type")) (xiNoTerm : PySem.W.isClsIn K eNoTerm = true)
    {eNoPlace : Addr} (xaNoPlace : PySem.W.nsIn K mainGlobals "NoPlace" = some (some (.ref eNoPlace))) (xqNoPlace : PySem.W.excIn K eNoPlace excBs "ValueError.__new__" = true) (xkNoPlace : PySem.W.keepIn K (.ref eNoPlace) = true) (xbNoPlace : PySem.W.subIn K (.ref eNoPlace) (.type "BaseException") = some true) (xtNoPlace : PySem.W.typeIn K (.ref eNoPlace) = some (.type "type")) (xiNoPlace : PySem.W.isClsIn K eNoPlace = true)
    {eBadText : Addr} (xaBadText : PySem.W.nsIn K mainGlobals "BadText" = some (some (.ref eBadText))) (xqBadText : PySem.W.excIn K eBadText excBs "ValueError.__new__" = true) (xkBadText : PySem.W.keepIn K (.ref eBadText) = true) (xbBadText : PySem.W.subIn K (.ref eBadText) (.type "BaseException") = some true) (xtBadText : PySem.W.typeIn K (.ref eBadText) = some (.type "type")) (xiBadText : PySem.W.isClsIn K eBadText = true)
    {eTooHeavy : Addr} (xaTooHeavy : PySem.W.nsIn K mainGlobals "TooHeavy" = some (some (.ref eTooHeavy))) (xqTooHeavy : PySem.W.excIn K eTooHeavy excBs "ValueError.__new__" = true) (xkTooHeavy : PySem.W.keepIn K (.ref eTooHeavy) = true) (xbTooHeavy : PySem.W.subIn K (.ref eTooHeavy) (.type "BaseException") = some true) (xtTooHeavy : PySem.W.typeIn K (.ref eTooHeavy) = some (.type "type")) (xiTooHeavy : PySem.W.isClsIn K eTooHeavy = true)
    {eTooLong : Addr} (xaTooLong : PySem.W.nsIn K mainGlobals "TooLong" = some (some (.ref eTooLong))) (xqTooLong : PySem.W.excIn K eTooLong excBs "ValueError.__new__" = true) (xkTooLong : PySem.W.keepIn K (.ref eTooLong) = true) (xbTooLong : PySem.W.subIn K (.ref eTooLong) (.type "BaseException") = some true) (xtTooLong : PySem.W.typeIn K (.ref eTooLong) = some (.type "type")) (xiTooLong : PySem.W.isClsIn K eTooLong = true)
    (sNoPlace_WoodError : PySem.W.subIn K (.ref eNoPlace) (.ref eWoodError) = some true)
    (sNoPlace_NoPlace : PySem.W.subIn K (.ref eNoPlace) (.ref eNoPlace) = some true)
    (IhgNoPlace : PySem.W.findIn K (.ref eNoPlace) "__getattribute__" = some (some (.builtin "BaseException.__getattribute__")))
    (IhkNoPlace : PySem.W.findIn K (.ref eNoPlace) "__getattr__" = some none)
    (IhsNoPlace : PySem.W.subIn K (.ref eNoPlace) (.type "BaseException") = some true)
    (IhdNoPlace : PySem.W.hasDictIn K eNoPlace = true)
    (IhaNoPlace : PySem.W.findIn K (.ref eNoPlace) "__class__" = some (some (.builtin "object.__class__")))
    (IhnNoPlace : PySem.W.specialIn K (.builtin "object.__class__") "__get__" = some (some (.builtin "getset_descriptor.__get__")))
    (IhtNoPlace : PySem.W.takesIn K (.builtin "object.__class__") = some true)
    (IhmNoPlace : PySem.W.mroIn K eNoPlace (.type "object") = some true)
    (KNoPlace_BadOrder : PySem.W.kitOne K (.ref eNoPlace) (.ref eBadOrder) = some false)
    (KNoPlace_BadText : PySem.W.kitOne K (.ref eNoPlace) (.ref eBadText) = some false)
    (KNoPlace_NoTerm : PySem.W.kitOne K (.ref eNoPlace) (.ref eNoTerm) = some false)
    (KNoPlace_TooHeavy : PySem.W.kitOne K (.ref eNoPlace) (.ref eTooHeavy) = some false)
    (KNoPlace_TooLong : PySem.W.kitOne K (.ref eNoPlace) (.ref eTooLong) = some false)
    (KNoPlace_NoPlace : PySem.W.kitOne K (.ref eNoPlace) (.ref eNoPlace) = some true)
    (KNoPlace_ValueError : PySem.W.kitOne K (.ref eNoPlace) (.type "ValueError") = some true)
    : ∃ fd : FuncData, (∀ (s : Shared) (v : Value), BindsTo s fd ⟨[v], []⟩ [("_law_script", v)]) ∧ ∀ base : Heap, K.In base → base.Ns mainGlobals mg → FnOk l.prog w K mg base (CX l.prog w) 220 fa fd ["_law_script"] (lowF K sp_law) := by
  have e := hfa.symm.trans (PySem.W.mg_of X G a17)
  cases e
  have T : Txt K mg := by
    refine { m_ValueError := PySem.W.mg_none_of X G z0, m_isinstance := PySem.W.mg_none_of X G z1, m_int := PySem.W.mg_none_of X G z2, m_abs := PySem.W.mg_none_of X G z3, m_range := PySem.W.mg_none_of X G z4, m_list := PySem.W.mg_none_of X G z5, m_zip := PySem.W.mg_none_of X G z6, m_len := PySem.W.mg_none_of X G z7, m_tuple := PySem.W.mg_none_of X G z8, m_str := PySem.W.mg_none_of X G z9, m_max := PySem.W.mg_none_of X G z10, m_bool := PySem.W.mg_none_of X G z11, x_WoodError := ⟨⟨_, PySem.W.mg_of X G xaWoodError, xqWoodError, xkWoodError, xbWoodError, xtWoodError, xiWoodError⟩⟩, x_BadOrder := ⟨⟨_, PySem.W.mg_of X G xaBadOrder, xqBadOrder, xkBadOrder, xbBadOrder, xtBadOrder, xiBadOrder⟩⟩, x_NoTerm := ⟨⟨_, PySem.W.mg_of X G xaNoTerm, xqNoTerm, xkNoTerm, xbNoTerm, xtNoTerm, xiNoTerm⟩⟩, x_NoPlace := ⟨⟨_, PySem.W.mg_of X G xaNoPlace, xqNoPlace, xkNoPlace, xbNoPlace, xtNoPlace, xiNoPlace⟩⟩, x_BadText := ⟨⟨_, PySem.W.mg_of X G xaBadText, xqBadText, xkBadText, xbBadText, xtBadText, xiBadText⟩⟩, x_TooHeavy := ⟨⟨_, PySem.W.mg_of X G xaTooHeavy, xqTooHeavy, xkTooHeavy, xbTooHeavy, xtTooHeavy, xiTooHeavy⟩⟩, x_TooLong := ⟨⟨_, PySem.W.mg_of X G xaTooLong, xqTooLong, xkTooLong, xbTooLong, xtTooLong, xiTooLong⟩⟩, ct_NoPlace_WoodError := ctAt_mk (PySem.W.mg_of X G xaNoPlace) (PySem.W.mg_of X G xaWoodError) xbWoodError xiWoodError xtWoodError sNoPlace_WoodError, ct_NoPlace_NoPlace := ctAt_mk (PySem.W.mg_of X G xaNoPlace) (PySem.W.mg_of X G xaNoPlace) xbNoPlace xiNoPlace xtNoPlace sNoPlace_NoPlace, i_NoPlace := fun D hD => by { rw [PySem.W.mg_of X G xaNoPlace] at hD; cases hD; exact ⟨IhgNoPlace, IhkNoPlace, IhsNoPlace, IhdNoPlace, IhaNoPlace, IhnNoPlace, IhtNoPlace, IhmNoPlace⟩ }, kt_NoPlace_BadOrder := fun D C hD hC => by { rw [PySem.W.mg_of X G xaNoPlace] at hD; rw [PySem.W.mg_of X G xaBadOrder] at hC; cases hD; cases hC; exact KNoPlace_BadOrder }, kt_NoPlace_BadText := fun D C hD hC => by { rw [PySem.W.mg_of X G xaNoPlace] at hD; rw [PySem.W.mg_of X G xaBadText] at hC; cases hD; cases hC; exact KNoPlace_BadText }, kt_NoPlace_NoTerm := fun D C hD hC => by { rw [PySem.W.mg_of X G xaNoPlace] at hD; rw [PySem.W.mg_of X G xaNoTerm] at hC; cases hD; cases hC; exact KNoPlace_NoTerm }, kt_NoPlace_TooHeavy := fun D C hD hC => by { rw [PySem.W.mg_of X G xaNoPlace] at hD; rw [PySem.W.mg_of X G xaTooHeavy] at hC; cases hD; cases hC; exact KNoPlace_TooHeavy }, kt_NoPlace_TooLong := fun D C hD hC => by { rw [PySem.W.mg_of X G xaNoPlace] at hD; rw [PySem.W.mg_of X G xaTooLong] at hC; cases hD; cases hC; exact KNoPlace_TooLong }, kt_NoPlace_NoPlace := fun D C hD hC => by { rw [PySem.W.mg_of X G xaNoPlace] at hD; rw [PySem.W.mg_of X G xaNoPlace] at hC; cases hD; cases hC; exact KNoPlace_NoPlace }, kt_NoPlace_ValueError := fun D hD => by { rw [PySem.W.mg_of X G xaNoPlace] at hD; cases hD; exact KNoPlace_ValueError }, d_is_blank := ?d0, d_places := ?d1, d_part_at := ?d2, d_put_at := ?d3, d__law_cell := ?d4, d__law_dice := ?d5, d__law_off := ?d6, d__law_names := ?d7, d__law_signs := ?d8, d__law_free := ?d9, d__law_term := ?d10, d__law_tall := ?d11, d__law_places := ?d12, d__law_part := ?d13, d__law_put := ?d14, d__law_same := ?d15, d__law_refused := ?d16, d_law := ?d17 }
    · exact ⟨⟨_, _, (fun_mk (st := s_is_blank) l0 c0 k0), PySem.W.mg_of X G a0, (fun_mk (st := s_is_blank) l0 c0 k0).binds (ps := ["term"]) fun _ _ _ _ _ _ us hl => match us, hl with | [_], _ => rfl, rfl⟩⟩
    · exact ⟨⟨_, _, (fun_mk (st := s_places) l1 c1 k1), PySem.W.mg_of X G a1, (fun_mk (st := s_places) l1 c1 k1).binds (ps := ["term"]) fun _ _ _ _ _ _ us hl => match us, hl with | [_], _ => rfl, rfl⟩⟩
    · exact ⟨⟨_, _, (fun_mk (st := s_part_at) l2 c2 k2), PySem.W.mg_of X G a2, (fun_mk (st := s_part_at) l2 c2 k2).binds (ps := ["term", "place"]) fun _ _ _ _ _ _ us hl => match us, hl with | [_, _], _ => rfl, rfl⟩⟩
    · exact ⟨⟨_, _, (fun_mk (st := s_put_at) l3 c3 k3), PySem.W.mg_of X G a3, (fun_mk (st := s_put_at) l3 c3 k3).binds (ps := ["term", "place", "new"]) fun _ _ _ _ _ _ us hl => match us, hl with | [_, _, _], _ => rfl, rfl⟩⟩
    · exact ⟨⟨_, _, (fun_mk (st := s__law_cell) l4 c4 k4), PySem.W.mg_of X G a4, (fun_mk (st := s__law_cell) l4 c4 k4).binds (ps := ["_law_script", "_law_k"]) fun _ _ _ _ _ _ us hl => match us, hl with | [_, _], _ => rfl, rfl⟩⟩
    · exact ⟨⟨_, _, (fun_mk (st := s__law_dice) l5 c5 k5), PySem.W.mg_of X G a5, (fun_mk (st := s__law_dice) l5 c5 k5).binds (ps := ["_law_script", "_law_k"]) fun _ _ _ _ _ _ us hl => match us, hl with | [_, _], _ => rfl, rfl⟩⟩
    · exact ⟨⟨_, _, (fun_mk (st := s__law_off) l6 c6 k6), PySem.W.mg_of X G a6, (fun_mk (st := s__law_off) l6 c6 k6).binds (ps := ["_law_d", "_law_most"]) fun _ _ _ _ _ _ us hl => match us, hl with | [_, _], _ => rfl, rfl⟩⟩
    · exact ⟨⟨_, _, (fun_mk (st := s__law_names) l7 c7 k7), PySem.W.mg_of X G a7, (fun_mk (st := s__law_names) l7 c7 k7).binds (ps := ["_law_d", "_law_many"]) fun _ _ _ _ _ _ us hl => match us, hl with | [_, _], _ => rfl, rfl⟩⟩
    · exact ⟨⟨_, _, (fun_mk (st := s__law_signs) l8 c8 k8), PySem.W.mg_of X G a8, (fun_mk (st := s__law_signs) l8 c8 k8).binds (ps := ["_law_d"]) fun _ _ _ _ _ _ us hl => match us, hl with | [_], _ => rfl, rfl⟩⟩
    · exact ⟨⟨_, _, (fun_mk (st := s__law_free) l9 c9 k9), PySem.W.mg_of X G a9, (fun_mk (st := s__law_free) l9 c9 k9).binds (ps := ["_law_d"]) fun _ _ _ _ _ _ us hl => match us, hl with | [_], _ => rfl, rfl⟩⟩
    · exact ⟨⟨_, _, (fun_mk (st := s__law_term) l10 c10 k10), PySem.W.mg_of X G a10, (fun_mk (st := s__law_term) l10 c10 k10).binds (ps := ["_law_d", "_law_signs_here", "_law_deep", "_law_free_here"]) fun _ _ _ _ _ _ us hl => match us, hl with | [_, _, _, _], _ => rfl, rfl⟩⟩
    · exact ⟨⟨_, _, (fun_mk (st := s__law_tall) l11 c11 k11), PySem.W.mg_of X G a11, (fun_mk (st := s__law_tall) l11 c11 k11).binds (ps := ["_law_d", "_law_term_here"]) fun _ _ _ _ _ _ us hl => match us, hl with | [_, _], _ => rfl, rfl⟩⟩
    · exact ⟨⟨_, _, (fun_mk (st := s__law_places) l12 c12 k12), PySem.W.mg_of X G a12, (fun_mk (st := s__law_places) l12 c12 k12).binds (ps := ["_law_term_here"]) fun _ _ _ _ _ _ us hl => match us, hl with | [_], _ => rfl, rfl⟩⟩
    · exact ⟨⟨_, _, (fun_mk (st := s__law_part) l13 c13 k13), PySem.W.mg_of X G a13, (fun_mk (st := s__law_part) l13 c13 k13).binds (ps := ["_law_term_here", "_law_place"]) fun _ _ _ _ _ _ us hl => match us, hl with | [_, _], _ => rfl, rfl⟩⟩
    · exact ⟨⟨_, _, (fun_mk (st := s__law_put) l14 c14 k14), PySem.W.mg_of X G a14, (fun_mk (st := s__law_put) l14 c14 k14).binds (ps := ["_law_term_here", "_law_place", "_law_new"]) fun _ _ _ _ _ _ us hl => match us, hl with | [_, _, _], _ => rfl, rfl⟩⟩
    · exact ⟨⟨_, _, (fun_mk (st := s__law_same) l15 c15 k15), PySem.W.mg_of X G a15, (fun_mk (st := s__law_same) l15 c15 k15).binds (ps := ["_law_found", "_law_due"]) fun _ _ _ _ _ _ us hl => match us, hl with | [_, _], _ => rfl, rfl⟩⟩
    · exact ⟨⟨_, _, (fun_mk (st := s__law_refused) l16 c16 k16), PySem.W.mg_of X G a16, (fun_mk (st := s__law_refused) l16 c16 k16).binds (ps := ["_law_term_here", "_law_place"]) fun _ _ _ _ _ _ us hl => match us, hl with | [_, _], _ => rfl, rfl⟩⟩
    · exact ⟨⟨_, _, (fun_mk (st := s_law) l17 c17 k17), PySem.W.mg_of X G a17, (fun_mk (st := s_law) l17 c17 k17).binds (ps := ["_law_script"]) fun _ _ _ _ _ _ us hl => match us, hl with | [_], _ => rfl, rfl⟩⟩
  exact ⟨PySem.W.fnOf "law" "law" (defArgs s_law) (defBody s_law) (defScope s_law) .none kV17 dc17 pm17 an17 cd17 ct17, fun s v => .of_eq rfl, fun base _ _ => law_fd (ok_law T) hfa l17 rfl⟩
end Rw
open PySem PySem.W PyProof.Rows in
set_option maxRecDepth 100000 in
set_option maxHeartbeats 0 in
theorem PySem.Challenge.cw_ruleswood_k02_places_of_a_term_holds : PySem.Challenge.rw_ruleswood_k02_places_of_a_term.Holds := by
  w_on; o_law; k_head; (case hw => w_witness2)
  k_fill
  refine Rw.walk0 (l := PySem.Challenge.rw_ruleswood_k02_places_of_a_term) (k := 220) (asp := Rw.sp_law) (x := "_law_script") rfl rfl ⟨rfl, by decide, by decide⟩ (fun w h Y => PySem.W.kIn_of Y) (fun ns G Q E hl h => ⟨ns, rfl, h⟩) ?F
  case F =>
    intro w mg fa h KX G hmg
    refine' Rw.law_all KX G hmg ?a0 ?l0 ?c0 ?k0 ?a1 ?l1 ?c1 ?k1 ?a2 ?l2 ?c2 ?k2 ?a3 ?l3 ?c3 ?k3 ?a4 ?l4 ?c4 ?k4 ?a5 ?l5 ?c5 ?k5 ?a6 ?l6 ?c6 ?k6 ?a7 ?l7 ?c7 ?k7 ?a8 ?l8 ?c8 ?k8 ?a9 ?l9 ?c9 ?k9 ?a10 ?l10 ?c10 ?k10 ?a11 ?l11 ?c11 ?k11 ?a12 ?l12 ?c12 ?k12 ?a13 ?l13 ?c13 ?k13 ?a14 ?l14 ?c14 ?k14 ?a15 ?l15 ?c15 ?k15 ?a16 ?l16 ?c16 ?k16 ?a17 ?l17 ?c17 ?k17 ?z0 ?z1 ?z2 ?z3 ?z4 ?z5 ?z6 ?z7 ?z8 ?z9 ?z10 ?z11 ?xaWoodError ?xqWoodError ?xkWoodError ?xbWoodError ?xtWoodError ?xiWoodError ?xaBadOrder ?xqBadOrder ?xkBadOrder ?xbBadOrder ?xtBadOrder ?xiBadOrder ?xaNoTerm ?xqNoTerm ?xkNoTerm ?xbNoTerm ?xtNoTerm ?xiNoTerm ?xaNoPlace ?xqNoPlace ?xkNoPlace ?xbNoPlace ?xtNoPlace ?xiNoPlace ?xaBadText ?xqBadText ?xkBadText ?xbBadText ?xtBadText ?xiBadText ?xaTooHeavy ?xqTooHeavy ?xkTooHeavy ?xbTooHeavy ?xtTooHeavy ?xiTooHeavy ?xaTooLong ?xqTooLong ?xkTooLong ?xbTooLong ?xtTooLong ?xiTooLong ?sNoPlace_WoodError ?sNoPlace_NoPlace ?IhgNoPlace ?IhkNoPlace ?IhsNoPlace ?IhdNoPlace ?IhaNoPlace ?IhnNoPlace ?IhtNoPlace ?IhmNoPlace ?KNoPlace_BadOrder ?KNoPlace_BadText ?KNoPlace_NoTerm ?KNoPlace_TooHeavy ?KNoPlace_TooLong ?KNoPlace_NoPlace ?KNoPlace_ValueError
    (case a0 => k_is)
    (case l0 => k_is)
    (case c0 => k_is)
    (case k0 => k_is)
    (case a1 => k_is)
    (case l1 => k_is)
    (case c1 => k_is)
    (case k1 => k_is)
    (case a2 => k_is)
    (case l2 => k_is)
    (case c2 => k_is)
    (case k2 => k_is)
    (case a3 => k_is)
    (case l3 => k_is)
    (case c3 => k_is)
    (case k3 => k_is)
    (case a4 => k_is)
    (case l4 => k_is)
    (case c4 => k_is)
    (case k4 => k_is)
    (case a5 => k_is)
    (case l5 => k_is)
    (case c5 => k_is)
    (case k5 => k_is)
    (case a6 => k_is)
    (case l6 => k_is)
    (case c6 => k_is)
    (case k6 => k_is)
    (case a7 => k_is)
    (case l7 => k_is)
    (case c7 => k_is)
    (case k7 => k_is)
    (case a8 => k_is)
    (case l8 => k_is)
    (case c8 => k_is)
    (case k8 => k_is)
    (case a9 => k_is)
    (case l9 => k_is)
    (case c9 => k_is)
    (case k9 => k_is)
    (case a10 => k_is)
    (case l10 => k_is)
    (case c10 => k_is)
    (case k10 => k_is)
    (case a11 => k_is)
    (case l11 => k_is)
    (case c11 => k_is)
    (case k11 => k_is)
    (case a12 => k_is)
    (case l12 => k_is)
    (case c12 => k_is)
    (case k12 => k_is)
    (case a13 => k_is)
    (case l13 => k_is)
    (case c13 => k_is)
    (case k13 => k_is)
    (case a14 => k_is)
    (case l14 => k_is)
    (case c14 => k_is)
    (case k14 => k_is)
    (case a15 => k_is)
    (case l15 => k_is)
    (case c15 => k_is)
    (case k15 => k_is)
    (case a16 => k_is)
    (case l16 => k_is)
    (case c16 => k_is)
    (case k16 => k_is)
    (case a17 => k_is)
    (case l17 => k_is)
    (case c17 => k_is)
    (case k17 => k_is)
    (case z0 => k_is)
    (case z1 => k_is)
    (case z2 => k_is)
    (case z3 => k_is)
    (case z4 => k_is)
    (case z5 => k_is)
    (case z6 => k_is)
    (case z7 => k_is)
    (case z8 => k_is)
    (case z9 => k_is)
    (case z10 => k_is)
    (case z11 => k_is)
    (case xaWoodError => k_is)
    (case xqWoodError => k_exc)
    (case xkWoodError => k_is)
    (case xbWoodError => k_is)
    (case xtWoodError => k_is)
    (case xiWoodError => k_is)
    (case xaBadOrder => k_is)
    (case xqBadOrder => k_exc)
    (case xkBadOrder => k_is)
    (case xbBadOrder => k_is)
    (case xtBadOrder => k_is)
    (case xiBadOrder => k_is)
    (case xaNoTerm => k_is)
    (case xqNoTerm => k_exc)
    (case xkNoTerm => k_is)
    (case xbNoTerm => k_is)
    (case xtNoTerm => k_is)
    (case xiNoTerm => k_is)
    (case xaNoPlace => k_is)
    (case xqNoPlace => k_exc)
    (case xkNoPlace => k_is)
    (case xbNoPlace => k_is)
    (case xtNoPlace => k_is)
    (case xiNoPlace => k_is)
    (case xaBadText => k_is)
    (case xqBadText => k_exc)
    (case xkBadText => k_is)
    (case xbBadText => k_is)
    (case xtBadText => k_is)
    (case xiBadText => k_is)
    (case xaTooHeavy => k_is)
    (case xqTooHeavy => k_exc)
    (case xkTooHeavy => k_is)
    (case xbTooHeavy => k_is)
    (case xtTooHeavy => k_is)
    (case xiTooHeavy => k_is)
    (case xaTooLong => k_is)
    (case xqTooLong => k_exc)
    (case xkTooLong => k_is)
    (case xbTooLong => k_is)
    (case xtTooLong => k_is)
    (case xiTooLong => k_is)
    (case sNoPlace_WoodError => first | rfl | k_is)
    (case sNoPlace_NoPlace => first | rfl | k_is)
    (case IhgNoPlace => k_is)
    (case IhkNoPlace => k_is)
    (case IhsNoPlace => k_is)
    (case IhdNoPlace => k_is)
    (case IhaNoPlace => k_is)
    (case IhnNoPlace => k_is)
    (case IhtNoPlace => k_is)
    (case IhmNoPlace => k_is)
    (case KNoPlace_BadOrder => first | rfl | k_is)
    (case KNoPlace_BadText => first | rfl | k_is)
    (case KNoPlace_NoTerm => first | rfl | k_is)
    (case KNoPlace_TooHeavy => first | rfl | k_is)
    (case KNoPlace_TooLong => first | rfl | k_is)
    (case KNoPlace_NoPlace => first | rfl | k_is)
    (case KNoPlace_ValueError => first | rfl | k_is)
